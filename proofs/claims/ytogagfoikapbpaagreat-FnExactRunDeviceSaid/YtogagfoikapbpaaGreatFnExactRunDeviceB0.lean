/- Functions of the program as functions of Lean, and that the program keeps to them. -/
import Derived.Test.YtogagfoikapbpaaGreatFnExactRunDeviceA1
import Derived.Test.YtogagfoikapbpaaGreatProg
set_option maxRecDepth 100000
set_option linter.unusedVariables false
set_option linter.unusedSimpArgs false
namespace Go.Proofs
end Go.Proofs
namespace Go.Sx.T
open Go Go.Sx Go.Proofs Go.RowKit
def lp_laws_heldTickS_2 : LP := ⟨[(0, false, [.sl 0]), (1, false, [.int .i64]), (5, false, [.int .i64])], [.ro (.pair (.int .i64) (.pair (.int .i64) (.int .i64))) 0], 1⟩
theorem okp_laws_heldTickS : CtrOK Tryz.prog 50 (con_laws_heldTickS (laws_heldTickS_ )) :=
  fun_ok (c := Tryz.f50.body.getD .skip) (con_laws_heldTickS (laws_heldTickS_ )) (gOf []) [] [⟨2, lp_laws_heldTickS_2, laws_heldTickS_L2 ⟩] rfl Tryz.func50 rfl rfl rfl (gOf_nil) (by kernel_rfl) [2] 1 (by kernel_rfl) (by kernel_rfl)
    (fun x => .cons (⟨2, lp_laws_heldTickS_2, laws_heldTickS_L2 ⟩ : Lab (OKs [.v false [.int .i64]])) rfl rfl (by kernel_rfl) (by kernel_rfl) (.nil _))
theorem ok_laws_heldTickS : CtrOK Tryz.prog 50 (con_laws_heldTickS fun _ => g_laws_heldTickS) := (okp_laws_heldTickS  ).nice e_laws_heldTickS

def lp_laws_heldIntS_2 : LP := ⟨[(0, false, [.sl 0]), (1, false, [.int .i64]), (5, false, [.int .i64])], [.ro (.int .i64) 0], 1⟩
theorem okp_laws_heldIntS : CtrOK Tryz.prog 99 (con_laws_heldIntS (laws_heldIntS_ )) :=
  fun_ok (c := Tryz.f99.body.getD .skip) (con_laws_heldIntS (laws_heldIntS_ )) (gOf []) [] [⟨2, lp_laws_heldIntS_2, laws_heldIntS_L2 ⟩] rfl Tryz.func99 rfl rfl rfl (gOf_nil) (by kernel_rfl) [2] 1 (by kernel_rfl) (by kernel_rfl)
    (fun x => .cons (⟨2, lp_laws_heldIntS_2, laws_heldIntS_L2 ⟩ : Lab (OKs [.v false [.int .i64]])) rfl rfl (by kernel_rfl) (by kernel_rfl) (.nil _))
theorem ok_laws_heldIntS : CtrOK Tryz.prog 99 (con_laws_heldIntS fun _ => g_laws_heldIntS) := (okp_laws_heldIntS  ).nice e_laws_heldIntS

theorem okp_laws_heldGuard (laws_heldIntS : Nat → List Int × Int → Option (Int)) (h99 : CtrOK Tryz.prog 99 (con_laws_heldIntS laws_heldIntS)) : CtrOK Tryz.prog 49 (con_laws_heldGuard (laws_heldGuard_ laws_heldIntS )) :=
  fun_ok0 (c := Tryz.f49.body.getD .skip) (con_laws_heldGuard (laws_heldGuard_ laws_heldIntS )) (gOf [(99, con_laws_heldIntS laws_heldIntS)]) rfl Tryz.func49 rfl rfl rfl (gOf_cons h99 (gOf_nil)) (by kernel_rfl) (by kernel_rfl)
theorem ok_laws_heldGuard : CtrOK Tryz.prog 49 (con_laws_heldGuard fun _ => g_laws_heldGuard) := (okp_laws_heldGuard _ ok_laws_heldIntS).nice e_laws_heldGuard

theorem okp_laws_heldDevice (laws_heldGuard : Nat → (List Int × Int) × Int → Option (Int)) (laws_heldTickS : Nat → ((List (Int × (Int × Int)))) × Int → Option (Int)) (h49 : CtrOK Tryz.prog 49 (con_laws_heldGuard laws_heldGuard)) (h50 : CtrOK Tryz.prog 50 (con_laws_heldTickS laws_heldTickS)) : CtrOK Tryz.prog 14 (con_laws_heldDevice (laws_heldDevice_ laws_heldGuard laws_heldTickS )) :=
  fun_ok0 (c := Tryz.f14.body.getD .skip) (con_laws_heldDevice (laws_heldDevice_ laws_heldGuard laws_heldTickS )) (gOf [(49, con_laws_heldGuard laws_heldGuard), (50, con_laws_heldTickS laws_heldTickS)]) rfl Tryz.func14 rfl rfl rfl (gOf_cons h49 (gOf_cons h50 (gOf_nil))) (by kernel_rfl) (by kernel_rfl)
theorem ok_laws_heldDevice : CtrOK Tryz.prog 14 (con_laws_heldDevice fun _ => g_laws_heldDevice) := (okp_laws_heldDevice _ _ ok_laws_heldGuard ok_laws_heldTickS).nice e_laws_heldDevice

theorem okp_laws_eqTick : CtrOK Tryz.prog 97 (con_laws_eqTick (laws_eqTick_ )) :=
  fun_ok0 (c := Tryz.f97.body.getD .skip) (con_laws_eqTick (laws_eqTick_ )) (gOf []) rfl Tryz.func97 rfl rfl rfl (gOf_nil) (by kernel_rfl) (by kernel_rfl)
theorem ok_laws_eqTick : CtrOK Tryz.prog 97 (con_laws_eqTick fun _ => g_laws_eqTick) := (okp_laws_eqTick  ).nice e_laws_eqTick

def lp_laws_eqTickS_4 : LP := ⟨[(0, false, [.sl 0]), (1, false, [.sl 1]), (5, false, [.int .i64])], [.ro (.pair (.int .i64) (.pair (.int .i64) (.int .i64))) 0, .ro (.pair (.int .i64) (.pair (.int .i64) (.int .i64))) 0], 2⟩
theorem okp_laws_eqTickS (laws_eqTick : Nat → (Int × Int × Int) × (Int × Int × Int) → Option (Bool)) (h97 : CtrOK Tryz.prog 97 (con_laws_eqTick laws_eqTick)) : CtrOK Tryz.prog 44 (con_laws_eqTickS (laws_eqTickS_ laws_eqTick )) :=
  fun_ok (c := Tryz.f44.body.getD .skip) (con_laws_eqTickS (laws_eqTickS_ laws_eqTick )) (gOf [(97, con_laws_eqTick laws_eqTick)]) [] [⟨4, lp_laws_eqTickS_4, laws_eqTickS_L4 laws_eqTick ⟩] rfl Tryz.func44 rfl rfl rfl (gOf_cons h97 (gOf_nil)) (by kernel_rfl) [4] 2 (by kernel_rfl) (by kernel_rfl)
    (fun x => .cons (⟨4, lp_laws_eqTickS_4, laws_eqTickS_L4 laws_eqTick ⟩ : Lab (OKs [.v false [.bool]])) rfl rfl (by kernel_rfl) (by kernel_rfl) (.nil _))
theorem ok_laws_eqTickS : CtrOK Tryz.prog 44 (con_laws_eqTickS fun _ => g_laws_eqTickS) := (okp_laws_eqTickS _ ok_laws_eqTick).nice e_laws_eqTickS

theorem okp_laws_eqMenu : CtrOK Tryz.prog 43 (con_laws_eqMenu (laws_eqMenu_ )) :=
  fun_ok0 (c := Tryz.f43.body.getD .skip) (con_laws_eqMenu (laws_eqMenu_ )) (gOf []) rfl Tryz.func43 rfl rfl rfl (gOf_nil) (by kernel_rfl) (by kernel_rfl)
theorem ok_laws_eqMenu : CtrOK Tryz.prog 43 (con_laws_eqMenu fun _ => g_laws_eqMenu) := (okp_laws_eqMenu  ).nice e_laws_eqMenu

def lp_laws_eqIntS_4 : LP := ⟨[(0, false, [.sl 0]), (1, false, [.sl 1]), (5, false, [.int .i64])], [.ro (.int .i64) 0, .ro (.int .i64) 0], 2⟩
theorem okp_laws_eqIntS : CtrOK Tryz.prog 96 (con_laws_eqIntS (laws_eqIntS_ )) :=
  fun_ok (c := Tryz.f96.body.getD .skip) (con_laws_eqIntS (laws_eqIntS_ )) (gOf []) [] [⟨4, lp_laws_eqIntS_4, laws_eqIntS_L4 ⟩] rfl Tryz.func96 rfl rfl rfl (gOf_nil) (by kernel_rfl) [4] 2 (by kernel_rfl) (by kernel_rfl)
    (fun x => .cons (⟨4, lp_laws_eqIntS_4, laws_eqIntS_L4 ⟩ : Lab (OKs [.v false [.bool]])) rfl rfl (by kernel_rfl) (by kernel_rfl) (.nil _))
theorem ok_laws_eqIntS : CtrOK Tryz.prog 96 (con_laws_eqIntS fun _ => g_laws_eqIntS) := (okp_laws_eqIntS  ).nice e_laws_eqIntS

theorem okp_laws_eqGuard (laws_eqIntS : Nat → List Int × List Int → Option (Bool)) (h96 : CtrOK Tryz.prog 96 (con_laws_eqIntS laws_eqIntS)) : CtrOK Tryz.prog 42 (con_laws_eqGuard (laws_eqGuard_ laws_eqIntS )) :=
  fun_ok0 (c := Tryz.f42.body.getD .skip) (con_laws_eqGuard (laws_eqGuard_ laws_eqIntS )) (gOf [(96, con_laws_eqIntS laws_eqIntS)]) rfl Tryz.func42 rfl rfl rfl (gOf_cons h96 (gOf_nil)) (by kernel_rfl) (by kernel_rfl)
theorem ok_laws_eqGuard : CtrOK Tryz.prog 42 (con_laws_eqGuard fun _ => g_laws_eqGuard) := (okp_laws_eqGuard _ ok_laws_eqIntS).nice e_laws_eqGuard

theorem okp_laws_eqRate : CtrOK Tryz.prog 95 (con_laws_eqRate (laws_eqRate_ )) :=
  fun_ok0 (c := Tryz.f95.body.getD .skip) (con_laws_eqRate (laws_eqRate_ )) (gOf []) rfl Tryz.func95 rfl rfl rfl (gOf_nil) (by kernel_rfl) (by kernel_rfl)
theorem ok_laws_eqRate : CtrOK Tryz.prog 95 (con_laws_eqRate fun _ => g_laws_eqRate) := (okp_laws_eqRate  ).nice e_laws_eqRate

theorem okp_laws_eqPump (laws_eqRate : Nat → (Int × Int × Int) × (Int × Int × Int) → Option (Bool)) (h95 : CtrOK Tryz.prog 95 (con_laws_eqRate laws_eqRate)) : CtrOK Tryz.prog 41 (con_laws_eqPump (laws_eqPump_ laws_eqRate )) :=
  fun_ok0 (c := Tryz.f41.body.getD .skip) (con_laws_eqPump (laws_eqPump_ laws_eqRate )) (gOf [(95, con_laws_eqRate laws_eqRate)]) rfl Tryz.func41 rfl rfl rfl (gOf_cons h95 (gOf_nil)) (by kernel_rfl) (by kernel_rfl)
theorem ok_laws_eqPump : CtrOK Tryz.prog 41 (con_laws_eqPump fun _ => g_laws_eqPump) := (okp_laws_eqPump _ ok_laws_eqRate).nice e_laws_eqPump

theorem okp_laws_eqDevice (laws_eqGuard : Nat → (List Int × Int) × (List Int × Int) → Option (Bool)) (laws_eqMenu : Nat → (Int × Bool × Int × Int × ByteArray) × (Int × Bool × Int × Int × ByteArray) → Option (Bool)) (laws_eqPump : Nat → (Int × Int × Int × Int × Int × Int × Int × Int) × (Int × Int × Int × Int × Int × Int × Int × Int) → Option (Bool)) (laws_eqTickS : Nat → ((List (Int × (Int × Int)))) × ((List (Int × (Int × Int)))) → Option (Bool)) (h42 : CtrOK Tryz.prog 42 (con_laws_eqGuard laws_eqGuard)) (h43 : CtrOK Tryz.prog 43 (con_laws_eqMenu laws_eqMenu)) (h41 : CtrOK Tryz.prog 41 (con_laws_eqPump laws_eqPump)) (h44 : CtrOK Tryz.prog 44 (con_laws_eqTickS laws_eqTickS)) : CtrOK Tryz.prog 10 (con_laws_eqDevice (laws_eqDevice_ laws_eqGuard laws_eqMenu laws_eqPump laws_eqTickS )) :=
  fun_ok0 (c := Tryz.f10.body.getD .skip) (con_laws_eqDevice (laws_eqDevice_ laws_eqGuard laws_eqMenu laws_eqPump laws_eqTickS )) (gOf [(42, con_laws_eqGuard laws_eqGuard), (43, con_laws_eqMenu laws_eqMenu), (41, con_laws_eqPump laws_eqPump), (44, con_laws_eqTickS laws_eqTickS)]) rfl Tryz.func10 rfl rfl rfl (gOf_cons h42 (gOf_cons h43 (gOf_cons h41 (gOf_cons h44 (gOf_nil))))) (by kernel_rfl) (by kernel_rfl)
theorem ok_laws_eqDevice : CtrOK Tryz.prog 10 (con_laws_eqDevice fun _ => g_laws_eqDevice) := (okp_laws_eqDevice _ _ _ _ ok_laws_eqGuard ok_laws_eqMenu ok_laws_eqPump ok_laws_eqTickS).nice e_laws_eqDevice

def lp_impl_RoomOf_3 : LP := ⟨[(3, false, [.int .i64]), (7, false, [.sl 0]), (8, false, [.int .i64]), (9, false, [.int .i64])], [.ro (.int .i64) 0], 1⟩
theorem okp_impl_RoomOf : CtrOK Tryz.prog 127 (con_impl_RoomOf (impl_RoomOf_ )) :=
  fun_ok (c := Tryz.f127.body.getD .skip) (con_impl_RoomOf (impl_RoomOf_ )) (gOf []) [] [⟨3, lp_impl_RoomOf_3, impl_RoomOf_L3 ⟩] rfl Tryz.func127 rfl rfl rfl (gOf_nil) (by kernel_rfl) [3] 1 (by kernel_rfl) (by kernel_rfl)
    (fun x => .cons (⟨3, lp_impl_RoomOf_3, impl_RoomOf_L3 ⟩ : Lab (OKs [.v false [.int .i64]])) rfl rfl (by kernel_rfl) (by kernel_rfl) (.nil _))
theorem ok_impl_RoomOf : CtrOK Tryz.prog 127 (con_impl_RoomOf fun _ => g_impl_RoomOf) := (okp_impl_RoomOf  ).nice e_impl_RoomOf

theorem okp_impl_within : CtrOK Tryz.prog 137 (con_impl_within (impl_within_ )) :=
  fun_ok0 (c := Tryz.f137.body.getD .skip) (con_impl_within (impl_within_ )) (gOf []) rfl Tryz.func137 rfl rfl rfl (gOf_nil) (by kernel_rfl) (by kernel_rfl)
theorem ok_impl_within : CtrOK Tryz.prog 137 (con_impl_within fun _ => g_impl_within) := (okp_impl_within  ).nice e_impl_within

theorem okp_impl_SenseOk (impl_within : Nat → Int × Int × Int → Option (Bool)) (h137 : CtrOK Tryz.prog 137 (con_impl_within impl_within)) : CtrOK Tryz.prog 89 (con_impl_SenseOk (impl_SenseOk_ impl_within )) :=
  fun_ok0 (c := Tryz.f89.body.getD .skip) (con_impl_SenseOk (impl_SenseOk_ impl_within )) (gOf [(137, con_impl_within impl_within)]) rfl Tryz.func89 rfl rfl rfl (gOf_cons h137 (gOf_nil)) (by kernel_rfl) (by kernel_rfl)
theorem ok_impl_SenseOk : CtrOK Tryz.prog 89 (con_impl_SenseOk fun _ => g_impl_SenseOk) := (okp_impl_SenseOk _ ok_impl_within).nice e_impl_SenseOk

def lp_impl_GuardOk_2 : LP := ⟨[(1, false, [.ptr 1 0]), (6, false, [.sl 0]), (7, false, [.int .i64]), (8, false, [.int .i64])], [.ro (.int .i64) 0, .box [.sl 0, .int .i64] 30], 1⟩
theorem okp_impl_GuardOk (impl_RoomOf : Nat → (List Int × Int) → Option (Int)) (impl_SenseOk : Nat → Int → Option (Bool)) (impl_within : Nat → Int × Int × Int → Option (Bool)) (h127 : CtrOK Tryz.prog 127 (con_impl_RoomOf impl_RoomOf)) (h89 : CtrOK Tryz.prog 89 (con_impl_SenseOk impl_SenseOk)) (h137 : CtrOK Tryz.prog 137 (con_impl_within impl_within)) : CtrOK Tryz.prog 119 (con_impl_GuardOk (impl_GuardOk_ impl_RoomOf impl_SenseOk impl_within )) :=
  fun_ok (c := Tryz.f119.body.getD .skip) (con_impl_GuardOk (impl_GuardOk_ impl_RoomOf impl_SenseOk impl_within )) (gOf [(127, con_impl_RoomOf impl_RoomOf), (89, con_impl_SenseOk impl_SenseOk), (137, con_impl_within impl_within)]) [] [⟨2, lp_impl_GuardOk_2, impl_GuardOk_L2 impl_RoomOf impl_SenseOk impl_within ⟩] rfl Tryz.func119 rfl rfl rfl (gOf_cons h127 (gOf_cons h89 (gOf_cons h137 (gOf_nil)))) (by kernel_rfl) [2] 1 (by kernel_rfl) (by kernel_rfl)
    (fun x => .cons (⟨2, lp_impl_GuardOk_2, impl_GuardOk_L2 impl_RoomOf impl_SenseOk impl_within ⟩ : Lab (OKs [.v false [.bool]])) rfl rfl (by kernel_rfl) (by kernel_rfl) (.nil _))
theorem ok_impl_GuardOk : CtrOK Tryz.prog 119 (con_impl_GuardOk fun _ => g_impl_GuardOk) := (okp_impl_GuardOk _ _ _ ok_impl_RoomOf ok_impl_SenseOk ok_impl_within).nice e_impl_GuardOk

theorem okp_impl_copyInts : CtrOK Tryz.prog 147 (con_impl_copyInts (impl_copyInts_ )) :=
  fun_ok0 (c := Tryz.f147.body.getD .skip) (con_impl_copyInts (impl_copyInts_ )) (gOf []) rfl Tryz.func147 rfl rfl rfl (gOf_nil) (by kernel_rfl) (by kernel_rfl)
theorem ok_impl_copyInts : CtrOK Tryz.prog 147 (con_impl_copyInts fun _ => g_impl_copyInts) := (okp_impl_copyInts  ).nice e_impl_copyInts

theorem okp_impl_copyGuard (impl_copyInts : Nat → List Int → Option (List Int)) (h147 : CtrOK Tryz.prog 147 (con_impl_copyInts impl_copyInts)) : CtrOK Tryz.prog 117 (con_impl_copyGuard (impl_copyGuard_ impl_copyInts )) :=
  fun_ok0 (c := Tryz.f117.body.getD .skip) (con_impl_copyGuard (impl_copyGuard_ impl_copyInts )) (gOf [(147, con_impl_copyInts impl_copyInts)]) rfl Tryz.func117 rfl rfl rfl (gOf_cons h147 (gOf_nil)) (by kernel_rfl) (by kernel_rfl)
theorem ok_impl_copyGuard : CtrOK Tryz.prog 117 (con_impl_copyGuard fun _ => g_impl_copyGuard) := (okp_impl_copyGuard _ ok_impl_copyInts).nice e_impl_copyGuard

theorem okp_impl_Pass (impl_GuardOk : Nat → (List Int × Int) → Option (Bool)) (impl_RoomOf : Nat → (List Int × Int) → Option (Int)) (impl_copyGuard : Nat → (List Int × Int) → Option ((List Int × Int))) (h119 : CtrOK Tryz.prog 119 (con_impl_GuardOk impl_GuardOk)) (h127 : CtrOK Tryz.prog 127 (con_impl_RoomOf impl_RoomOf)) (h117 : CtrOK Tryz.prog 117 (con_impl_copyGuard impl_copyGuard)) : CtrOK Tryz.prog 78 (con_impl_Pass (impl_Pass_ impl_GuardOk impl_RoomOf impl_copyGuard )) :=
  fun_ok0 (c := Tryz.f78.body.getD .skip) (con_impl_Pass (impl_Pass_ impl_GuardOk impl_RoomOf impl_copyGuard )) (gOf [(119, con_impl_GuardOk impl_GuardOk), (127, con_impl_RoomOf impl_RoomOf), (117, con_impl_copyGuard impl_copyGuard)]) rfl Tryz.func78 rfl rfl rfl (gOf_cons h119 (gOf_cons h127 (gOf_cons h117 (gOf_nil)))) (by kernel_rfl) (by kernel_rfl)
theorem ok_impl_Pass : CtrOK Tryz.prog 78 (con_impl_Pass fun _ => g_impl_Pass) := (okp_impl_Pass _ _ _ ok_impl_GuardOk ok_impl_RoomOf ok_impl_copyGuard).nice e_impl_Pass

theorem okp_impl_RateOk (impl_within : Nat → Int × Int × Int → Option (Bool)) (h137 : CtrOK Tryz.prog 137 (con_impl_within impl_within)) : CtrOK Tryz.prog 148 (con_impl_RateOk (impl_RateOk_ impl_within )) :=
  fun_ok0 (c := Tryz.f148.body.getD .skip) (con_impl_RateOk (impl_RateOk_ impl_within )) (gOf [(137, con_impl_within impl_within)]) rfl Tryz.func148 rfl rfl rfl (gOf_cons h137 (gOf_nil)) (by kernel_rfl) (by kernel_rfl)
theorem ok_impl_RateOk : CtrOK Tryz.prog 148 (con_impl_RateOk fun _ => g_impl_RateOk) := (okp_impl_RateOk _ ok_impl_within).nice e_impl_RateOk

theorem okp_impl_StepRate (impl_RateOk : Nat → (Int × Int × Int) → Option (Bool)) (h148 : CtrOK Tryz.prog 148 (con_impl_RateOk impl_RateOk)) : CtrOK Tryz.prog 128 (con_impl_StepRate (impl_StepRate_ impl_RateOk )) :=
  fun_ok0 (c := Tryz.f128.body.getD .skip) (con_impl_StepRate (impl_StepRate_ impl_RateOk )) (gOf [(148, con_impl_RateOk impl_RateOk)]) rfl Tryz.func128 rfl rfl rfl (gOf_cons h148 (gOf_nil)) (by kernel_rfl) (by kernel_rfl)
theorem ok_impl_StepRate : CtrOK Tryz.prog 128 (con_impl_StepRate fun _ => g_impl_StepRate) := (okp_impl_StepRate _ ok_impl_RateOk).nice e_impl_StepRate

theorem okp_impl_PumpOk (impl_RateOk : Nat → (Int × Int × Int) → Option (Bool)) (impl_within : Nat → Int × Int × Int → Option (Bool)) (h148 : CtrOK Tryz.prog 148 (con_impl_RateOk impl_RateOk)) (h137 : CtrOK Tryz.prog 137 (con_impl_within impl_within)) : CtrOK Tryz.prog 118 (con_impl_PumpOk (impl_PumpOk_ impl_RateOk impl_within )) :=
  fun_ok0 (c := Tryz.f118.body.getD .skip) (con_impl_PumpOk (impl_PumpOk_ impl_RateOk impl_within )) (gOf [(148, con_impl_RateOk impl_RateOk), (137, con_impl_within impl_within)]) rfl Tryz.func118 rfl rfl rfl (gOf_cons h148 (gOf_cons h137 (gOf_nil))) (by kernel_rfl) (by kernel_rfl)
theorem ok_impl_PumpOk : CtrOK Tryz.prog 118 (con_impl_PumpOk fun _ => g_impl_PumpOk) := (okp_impl_PumpOk _ _ ok_impl_RateOk ok_impl_within).nice e_impl_PumpOk

theorem okp_impl_Wants (impl_PumpOk : Nat → (Int × Int × Int × Int × Int × Int × Int × Int) → Option (Bool)) (impl_StepRate : Nat → (Int × Int × Int) → Option ((Int × Int × Int) × Int)) (h118 : CtrOK Tryz.prog 118 (con_impl_PumpOk impl_PumpOk)) (h128 : CtrOK Tryz.prog 128 (con_impl_StepRate impl_StepRate)) : CtrOK Tryz.prog 76 (con_impl_Wants (impl_Wants_ impl_PumpOk impl_StepRate )) :=
  fun_ok0 (c := Tryz.f76.body.getD .skip) (con_impl_Wants (impl_Wants_ impl_PumpOk impl_StepRate )) (gOf [(118, con_impl_PumpOk impl_PumpOk), (128, con_impl_StepRate impl_StepRate)]) rfl Tryz.func76 rfl rfl rfl (gOf_cons h118 (gOf_cons h128 (gOf_nil))) (by kernel_rfl) (by kernel_rfl)
theorem ok_impl_Wants : CtrOK Tryz.prog 76 (con_impl_Wants fun _ => g_impl_Wants) := (okp_impl_Wants _ _ ok_impl_PumpOk ok_impl_StepRate).nice e_impl_Wants

theorem okp_impl_Give (impl_PumpOk : Nat → (Int × Int × Int × Int × Int × Int × Int × Int) → Option (Bool)) (impl_StepRate : Nat → (Int × Int × Int) → Option ((Int × Int × Int) × Int)) (impl_Wants : Nat → (Int × Int × Int × Int × Int × Int × Int × Int) → Option (Int)) (h118 : CtrOK Tryz.prog 118 (con_impl_PumpOk impl_PumpOk)) (h128 : CtrOK Tryz.prog 128 (con_impl_StepRate impl_StepRate)) (h76 : CtrOK Tryz.prog 76 (con_impl_Wants impl_Wants)) : CtrOK Tryz.prog 77 (con_impl_Give (impl_Give_ impl_PumpOk impl_StepRate impl_Wants )) :=
  fun_ok0 (c := Tryz.f77.body.getD .skip) (con_impl_Give (impl_Give_ impl_PumpOk impl_StepRate impl_Wants )) (gOf [(118, con_impl_PumpOk impl_PumpOk), (128, con_impl_StepRate impl_StepRate), (76, con_impl_Wants impl_Wants)]) rfl Tryz.func77 rfl rfl rfl (gOf_cons h118 (gOf_cons h128 (gOf_cons h76 (gOf_nil)))) (by kernel_rfl) (by kernel_rfl)
theorem ok_impl_Give : CtrOK Tryz.prog 77 (con_impl_Give fun _ => g_impl_Give) := (okp_impl_Give _ _ _ ok_impl_PumpOk ok_impl_StepRate ok_impl_Wants).nice e_impl_Give

theorem okp_impl_Allow (impl_GuardOk : Nat → (List Int × Int) → Option (Bool)) (impl_RoomOf : Nat → (List Int × Int) → Option (Int)) (h119 : CtrOK Tryz.prog 119 (con_impl_GuardOk impl_GuardOk)) (h127 : CtrOK Tryz.prog 127 (con_impl_RoomOf impl_RoomOf)) : CtrOK Tryz.prog 75 (con_impl_Allow (impl_Allow_ impl_GuardOk impl_RoomOf )) :=
  fun_ok0 (c := Tryz.f75.body.getD .skip) (con_impl_Allow (impl_Allow_ impl_GuardOk impl_RoomOf )) (gOf [(119, con_impl_GuardOk impl_GuardOk), (127, con_impl_RoomOf impl_RoomOf)]) rfl Tryz.func75 rfl rfl rfl (gOf_cons h119 (gOf_cons h127 (gOf_nil))) (by kernel_rfl) (by kernel_rfl)
theorem ok_impl_Allow : CtrOK Tryz.prog 75 (con_impl_Allow fun _ => g_impl_Allow) := (okp_impl_Allow _ _ ok_impl_GuardOk ok_impl_RoomOf).nice e_impl_Allow

theorem okp_impl_Feel (impl_GuardOk : Nat → (List Int × Int) → Option (Bool)) (impl_SenseOk : Nat → Int → Option (Bool)) (impl_copyGuard : Nat → (List Int × Int) → Option ((List Int × Int))) (h119 : CtrOK Tryz.prog 119 (con_impl_GuardOk impl_GuardOk)) (h89 : CtrOK Tryz.prog 89 (con_impl_SenseOk impl_SenseOk)) (h117 : CtrOK Tryz.prog 117 (con_impl_copyGuard impl_copyGuard)) : CtrOK Tryz.prog 73 (con_impl_Feel (impl_Feel_ impl_GuardOk impl_SenseOk impl_copyGuard )) :=
  fun_ok0 (c := Tryz.f73.body.getD .skip) (con_impl_Feel (impl_Feel_ impl_GuardOk impl_SenseOk impl_copyGuard )) (gOf [(119, con_impl_GuardOk impl_GuardOk), (89, con_impl_SenseOk impl_SenseOk), (117, con_impl_copyGuard impl_copyGuard)]) rfl Tryz.func73 rfl rfl rfl (gOf_cons h119 (gOf_cons h89 (gOf_cons h117 (gOf_nil)))) (by kernel_rfl) (by kernel_rfl)
theorem ok_impl_Feel : CtrOK Tryz.prog 73 (con_impl_Feel fun _ => g_impl_Feel) := (okp_impl_Feel _ _ _ ok_impl_GuardOk ok_impl_SenseOk ok_impl_copyGuard).nice e_impl_Feel

def lp_impl_isSeen_2 : LP := ⟨[(5, false, [.sl 0]), (6, false, [.int .i64]), (7, false, [.int .i64])], [.ro (.pair (.int .i64) (.pair (.int .i64) (.pair (.int .i64) (.int .i64)))) 0], 1⟩
theorem okp_impl_isSeen : CtrOK Tryz.prog 74 (con_impl_isSeen (impl_isSeen_ )) :=
  fun_ok (c := Tryz.f74.body.getD .skip) (con_impl_isSeen (impl_isSeen_ )) (gOf []) [] [⟨2, lp_impl_isSeen_2, impl_isSeen_L2 ⟩] rfl Tryz.func74 rfl rfl rfl (gOf_nil) (by kernel_rfl) [2] 1 (by kernel_rfl) (by kernel_rfl)
    (fun x => .cons (⟨2, lp_impl_isSeen_2, impl_isSeen_L2 ⟩ : Lab (OKs [.v false [.bool]])) rfl rfl (by kernel_rfl) (by kernel_rfl) (.nil _))
theorem ok_impl_isSeen : CtrOK Tryz.prog 74 (con_impl_isSeen fun _ => g_impl_isSeen) := (okp_impl_isSeen  ).nice e_impl_isSeen

theorem okp_impl_OrderOk (impl_within : Nat → Int × Int × Int → Option (Bool)) (h137 : CtrOK Tryz.prog 137 (con_impl_within impl_within)) : CtrOK Tryz.prog 126 (con_impl_OrderOk (impl_OrderOk_ impl_within )) :=
  fun_ok0 (c := Tryz.f126.body.getD .skip) (con_impl_OrderOk (impl_OrderOk_ impl_within )) (gOf [(137, con_impl_within impl_within)]) rfl Tryz.func126 rfl rfl rfl (gOf_cons h137 (gOf_nil)) (by kernel_rfl) (by kernel_rfl)
theorem ok_impl_OrderOk : CtrOK Tryz.prog 126 (con_impl_OrderOk fun _ => g_impl_OrderOk) := (okp_impl_OrderOk _ ok_impl_within).nice e_impl_OrderOk

def lp_impl_ReadVar_5 : LP := ⟨[(0, false, [.str]), (1, false, [.int .i64]), (7, false, [.int .i64]), (8, false, [.int .i64])], [], 0⟩
theorem okp_impl_ReadVar (impl_within : Nat → Int × Int × Int → Option (Bool)) (h137 : CtrOK Tryz.prog 137 (con_impl_within impl_within)) : CtrOK Tryz.prog 151 (con_impl_ReadVar (impl_ReadVar_ impl_within )) :=
  fun_ok (c := Tryz.f151.body.getD .skip) (con_impl_ReadVar (impl_ReadVar_ impl_within )) (gOf [(137, con_impl_within impl_within)]) [] [⟨5, lp_impl_ReadVar_5, impl_ReadVar_L5 impl_within ⟩] rfl Tryz.func151 rfl rfl rfl (gOf_cons h137 (gOf_nil)) (by kernel_rfl) [5] 0 (by kernel_rfl) (by kernel_rfl)
    (fun x => .cons (⟨5, lp_impl_ReadVar_5, impl_ReadVar_L5 impl_within ⟩ : Lab (OKs [.v false [.int .i64], .v false [.int .i64], .v false [.bool]])) rfl rfl (by kernel_rfl) (by kernel_rfl) (.nil _))
theorem ok_impl_ReadVar : CtrOK Tryz.prog 151 (con_impl_ReadVar fun _ => g_impl_ReadVar) := (okp_impl_ReadVar _ ok_impl_within).nice e_impl_ReadVar

theorem okp_impl_reader__number (impl_ReadVar : Nat → ByteArray × Int → Option (Int × Int × Bool)) (h151 : CtrOK Tryz.prog 151 (con_impl_ReadVar impl_ReadVar)) : CtrOK Tryz.prog 125 (con_impl_reader__number (impl_reader__number_ impl_ReadVar )) :=
  fun_ok0 (c := Tryz.f125.body.getD .skip) (con_impl_reader__number (impl_reader__number_ impl_ReadVar )) (gOf [(151, con_impl_ReadVar impl_ReadVar)]) rfl Tryz.func125 rfl rfl rfl (gOf_cons h151 (gOf_nil)) (by kernel_rfl) (by kernel_rfl)
theorem ok_impl_reader__number : CtrOK Tryz.prog 125 (con_impl_reader__number fun _ => g_impl_reader__number) := (okp_impl_reader__number _ ok_impl_ReadVar).nice e_impl_reader__number

def lp_impl_highFirst_3 : LP := ⟨[(0, false, [.int .i64]), (5, false, [.sl 0]), (6, false, [.int .i64])], [.row (.int .u8) 5], 0⟩
theorem okp_impl_highFirst : CtrOK Tryz.prog 162 (con_impl_highFirst (impl_highFirst_ )) :=
  fun_ok (c := Tryz.f162.body.getD .skip) (con_impl_highFirst (impl_highFirst_ )) (gOf []) [] [⟨3, lp_impl_highFirst_3, impl_highFirst_L3 ⟩] rfl Tryz.func162 rfl rfl rfl (gOf_nil) (by kernel_rfl) [3] 0 (by kernel_rfl) (by kernel_rfl)
    (fun x => .cons (⟨3, lp_impl_highFirst_3, impl_highFirst_L3 ⟩ : Lab (OKs [.v false [.str]])) rfl rfl (by kernel_rfl) (by kernel_rfl) (.nil _))
theorem ok_impl_highFirst : CtrOK Tryz.prog 162 (con_impl_highFirst fun _ => g_impl_highFirst) := (okp_impl_highFirst  ).nice e_impl_highFirst

def lp_impl_SumMore_2 : LP := ⟨[(0, false, [.int .u32]), (1, false, [.str]), (5, false, [.int .i64])], [], 0⟩
def lp_impl_SumMore_6 : LP := ⟨[(0, false, [.int .u32]), (1, false, [.str]), (5, false, [.int .i64]), (19, false, [.int .i64])], [], 0⟩
theorem okp_impl_SumMore : CtrOK Tryz.prog 166 (con_impl_SumMore (impl_SumMore_ )) :=
  fun_ok (c := Tryz.f166.body.getD .skip) (con_impl_SumMore (impl_SumMore_ )) (gOf []) [] [⟨2, lp_impl_SumMore_2, impl_SumMore_L2 ⟩, ⟨6, lp_impl_SumMore_6, impl_SumMore_L6 ⟩] rfl Tryz.func166 rfl rfl rfl (gOf_nil) (by kernel_rfl) [2, 6] 0 (by kernel_rfl) (by kernel_rfl)
    (fun x => .cons (⟨2, lp_impl_SumMore_2, impl_SumMore_L2 ⟩ : Lab (OKs [.v false [.int .u32]])) rfl rfl (by kernel_rfl) (by kernel_rfl) (.cons (⟨6, lp_impl_SumMore_6, impl_SumMore_L6 ⟩ : Lab (OKs [.v false [.int .u32]])) rfl rfl (by kernel_rfl) (by kernel_rfl) (.nil _)))
theorem ok_impl_SumMore : CtrOK Tryz.prog 166 (con_impl_SumMore fun _ => g_impl_SumMore) := (okp_impl_SumMore  ).nice e_impl_SumMore

theorem okp_impl_SumOf (impl_SumMore : Nat → Int × ByteArray → Option (Int)) (h166 : CtrOK Tryz.prog 166 (con_impl_SumMore impl_SumMore)) : CtrOK Tryz.prog 163 (con_impl_SumOf (impl_SumOf_ impl_SumMore )) :=
  fun_ok0 (c := Tryz.f163.body.getD .skip) (con_impl_SumOf (impl_SumOf_ impl_SumMore )) (gOf [(166, con_impl_SumMore impl_SumMore)]) rfl Tryz.func163 rfl rfl rfl (gOf_cons h166 (gOf_nil)) (by kernel_rfl) (by kernel_rfl)
theorem ok_impl_SumOf : CtrOK Tryz.prog 163 (con_impl_SumOf fun _ => g_impl_SumOf) := (okp_impl_SumOf _ ok_impl_SumMore).nice e_impl_SumOf

theorem okp_impl_Sealed (impl_SumOf : Nat → ByteArray → Option (Int)) (impl_highFirst : Nat → Int × Int → Option (ByteArray)) (h163 : CtrOK Tryz.prog 163 (con_impl_SumOf impl_SumOf)) (h162 : CtrOK Tryz.prog 162 (con_impl_highFirst impl_highFirst)) : CtrOK Tryz.prog 150 (con_impl_Sealed (impl_Sealed_ impl_SumOf impl_highFirst )) :=
  fun_ok0 (c := Tryz.f150.body.getD .skip) (con_impl_Sealed (impl_Sealed_ impl_SumOf impl_highFirst )) (gOf [(163, con_impl_SumOf impl_SumOf), (162, con_impl_highFirst impl_highFirst)]) rfl Tryz.func150 rfl rfl rfl (gOf_cons h163 (gOf_cons h162 (gOf_nil))) (by kernel_rfl) (by kernel_rfl)
theorem ok_impl_Sealed : CtrOK Tryz.prog 150 (con_impl_Sealed fun _ => g_impl_Sealed) := (okp_impl_Sealed _ _ ok_impl_SumOf ok_impl_highFirst).nice e_impl_Sealed

theorem okp_impl_Unsealed (impl_Sealed : Nat → ByteArray → Option (ByteArray × Bool)) (h150 : CtrOK Tryz.prog 150 (con_impl_Sealed impl_Sealed)) : CtrOK Tryz.prog 124 (con_impl_Unsealed (impl_Unsealed_ impl_Sealed )) :=
  fun_ok0 (c := Tryz.f124.body.getD .skip) (con_impl_Unsealed (impl_Unsealed_ impl_Sealed )) (gOf [(150, con_impl_Sealed impl_Sealed)]) rfl Tryz.func124 rfl rfl rfl (gOf_cons h150 (gOf_nil)) (by kernel_rfl) (by kernel_rfl)
theorem ok_impl_Unsealed : CtrOK Tryz.prog 124 (con_impl_Unsealed fun _ => g_impl_Unsealed) := (okp_impl_Unsealed _ ok_impl_Sealed).nice e_impl_Unsealed

theorem okp_impl_ReadOrder (impl_OrderOk : Nat → (Int × Int × Int × Int) → Option (Bool)) (impl_Unsealed : Nat → ByteArray → Option (ByteArray × Bool)) (impl_reader__number : Nat → (ByteArray × Int × Bool) → Option (Int × (ByteArray × Int × Bool))) (h126 : CtrOK Tryz.prog 126 (con_impl_OrderOk impl_OrderOk)) (h124 : CtrOK Tryz.prog 124 (con_impl_Unsealed impl_Unsealed)) (h125 : CtrOK Tryz.prog 125 (con_impl_reader__number impl_reader__number)) : CtrOK Tryz.prog 72 (con_impl_ReadOrder (impl_ReadOrder_ impl_OrderOk impl_Unsealed impl_reader__number )) :=
  fun_ok0 (c := Tryz.f72.body.getD .skip) (con_impl_ReadOrder (impl_ReadOrder_ impl_OrderOk impl_Unsealed impl_reader__number )) (gOf [(126, con_impl_OrderOk impl_OrderOk), (124, con_impl_Unsealed impl_Unsealed), (125, con_impl_reader__number impl_reader__number)]) rfl Tryz.func72 rfl rfl rfl (gOf_cons h126 (gOf_cons h124 (gOf_cons h125 (gOf_nil)))) (by kernel_rfl) (by kernel_rfl)
theorem ok_impl_ReadOrder : CtrOK Tryz.prog 72 (con_impl_ReadOrder fun _ => g_impl_ReadOrder) := (okp_impl_ReadOrder _ _ _ ok_impl_OrderOk ok_impl_Unsealed ok_impl_reader__number).nice e_impl_ReadOrder

theorem okp_impl_Take (impl_OrderOk : Nat → (Int × Int × Int × Int) → Option (Bool)) (impl_PumpOk : Nat → (Int × Int × Int × Int × Int × Int × Int × Int) → Option (Bool)) (h126 : CtrOK Tryz.prog 126 (con_impl_OrderOk impl_OrderOk)) (h118 : CtrOK Tryz.prog 118 (con_impl_PumpOk impl_PumpOk)) : CtrOK Tryz.prog 123 (con_impl_Take (impl_Take_ impl_OrderOk impl_PumpOk )) :=
  fun_ok0 (c := Tryz.f123.body.getD .skip) (con_impl_Take (impl_Take_ impl_OrderOk impl_PumpOk )) (gOf [(126, con_impl_OrderOk impl_OrderOk), (118, con_impl_PumpOk impl_PumpOk)]) rfl Tryz.func123 rfl rfl rfl (gOf_cons h126 (gOf_cons h118 (gOf_nil))) (by kernel_rfl) (by kernel_rfl)
theorem ok_impl_Take : CtrOK Tryz.prog 123 (con_impl_Take fun _ => g_impl_Take) := (okp_impl_Take _ _ ok_impl_OrderOk ok_impl_PumpOk).nice e_impl_Take

theorem okp_impl_Device__order (impl_Take : Nat → (Int × Int × Int × Int × Int × Int × Int × Int) × (Int × Int × Int × Int) → Option ((Int × Int × Int × Int × Int × Int × Int × Int) × Bool)) (h123 : CtrOK Tryz.prog 123 (con_impl_Take impl_Take)) : CtrOK Tryz.prog 71 (con_impl_Device__order (impl_Device__order_ impl_Take )) :=
  fun_ok0 (c := Tryz.f71.body.getD .skip) (con_impl_Device__order (impl_Device__order_ impl_Take )) (gOf [(123, con_impl_Take impl_Take)]) rfl Tryz.func71 rfl rfl rfl (gOf_cons h123 (gOf_nil)) (by kernel_rfl) (by kernel_rfl)
theorem ok_impl_Device__order : CtrOK Tryz.prog 71 (con_impl_Device__order fun _ => g_impl_Device__order) := (okp_impl_Device__order _ ok_impl_Take).nice e_impl_Device__order

theorem okp_impl_MenuNew : CtrOK Tryz.prog 88 (con_impl_MenuNew (impl_MenuNew_ )) :=
  fun_ok0 (c := Tryz.f88.body.getD .skip) (con_impl_MenuNew (impl_MenuNew_ )) (gOf []) rfl Tryz.func88 rfl rfl rfl (gOf_nil) (by kernel_rfl) (by kernel_rfl)
theorem ok_impl_MenuNew : CtrOK Tryz.prog 88 (con_impl_MenuNew fun _ => g_impl_MenuNew) := (okp_impl_MenuNew  ).nice e_impl_MenuNew

def lp_impl_typed_3 : LP := ⟨[(0, false, [.str]), (3, false, [.int .i64]), (6, false, [.int .i64]), (7, false, [.int .i64])], [], 0⟩
theorem okp_impl_typed : CtrOK Tryz.prog 165 (con_impl_typed (impl_typed_ )) :=
  fun_ok (c := Tryz.f165.body.getD .skip) (con_impl_typed (impl_typed_ )) (gOf []) [] [⟨3, lp_impl_typed_3, impl_typed_L3 ⟩] rfl Tryz.func165 rfl rfl rfl (gOf_nil) (by kernel_rfl) [3] 0 (by kernel_rfl) (by kernel_rfl)
    (fun x => .cons (⟨3, lp_impl_typed_3, impl_typed_L3 ⟩ : Lab (OKs [.v false [.int .i64]])) rfl rfl (by kernel_rfl) (by kernel_rfl) (.nil _))
theorem ok_impl_typed : CtrOK Tryz.prog 165 (con_impl_typed fun _ => g_impl_typed) := (okp_impl_typed  ).nice e_impl_typed

theorem okp_impl_Menu__enter (impl_MenuNew : Nat → Unit → Option ((Int × Bool × Int × Int × ByteArray))) (impl_OrderOk : Nat → (Int × Int × Int × Int) → Option (Bool)) (impl_typed : Nat → ByteArray → Option (Int)) (h88 : CtrOK Tryz.prog 88 (con_impl_MenuNew impl_MenuNew)) (h126 : CtrOK Tryz.prog 126 (con_impl_OrderOk impl_OrderOk)) (h165 : CtrOK Tryz.prog 165 (con_impl_typed impl_typed)) : CtrOK Tryz.prog 161 (con_impl_Menu__enter (impl_Menu__enter_ impl_MenuNew impl_OrderOk impl_typed )) :=
  fun_ok0 (c := Tryz.f161.body.getD .skip) (con_impl_Menu__enter (impl_Menu__enter_ impl_MenuNew impl_OrderOk impl_typed )) (gOf [(88, con_impl_MenuNew impl_MenuNew), (126, con_impl_OrderOk impl_OrderOk), (165, con_impl_typed impl_typed)]) rfl Tryz.func161 rfl rfl rfl (gOf_cons h88 (gOf_cons h126 (gOf_cons h165 (gOf_nil)))) (by kernel_rfl) (by kernel_rfl)
theorem ok_impl_Menu__enter : CtrOK Tryz.prog 161 (con_impl_Menu__enter fun _ => g_impl_Menu__enter) := (okp_impl_Menu__enter _ _ _ ok_impl_MenuNew ok_impl_OrderOk ok_impl_typed).nice e_impl_Menu__enter

theorem okp_impl_Menu__top : CtrOK Tryz.prog 160 (con_impl_Menu__top (impl_Menu__top_ )) :=
  fun_ok0 (c := Tryz.f160.body.getD .skip) (con_impl_Menu__top (impl_Menu__top_ )) (gOf []) rfl Tryz.func160 rfl rfl rfl (gOf_nil) (by kernel_rfl) (by kernel_rfl)
theorem ok_impl_Menu__top : CtrOK Tryz.prog 160 (con_impl_Menu__top fun _ => g_impl_Menu__top) := (okp_impl_Menu__top  ).nice e_impl_Menu__top

def lp_impl_MenuOk_2 : LP := ⟨[(1, false, [.ptr 0 0]), (6, false, [.int .i64]), (7, false, [.int .i64])], [.box [.int .i64, .bool, .int .i64, .int .i64, .str] 32], 0⟩
theorem okp_impl_MenuOk (impl_MenuNew : Nat → Unit → Option ((Int × Bool × Int × Int × ByteArray))) (impl_within : Nat → Int × Int × Int → Option (Bool)) (h88 : CtrOK Tryz.prog 88 (con_impl_MenuNew impl_MenuNew)) (h137 : CtrOK Tryz.prog 137 (con_impl_within impl_within)) : CtrOK Tryz.prog 120 (con_impl_MenuOk (impl_MenuOk_ impl_MenuNew impl_within )) :=
  fun_ok (c := Tryz.f120.body.getD .skip) (con_impl_MenuOk (impl_MenuOk_ impl_MenuNew impl_within )) (gOf [(88, con_impl_MenuNew impl_MenuNew), (137, con_impl_within impl_within)]) [] [⟨2, lp_impl_MenuOk_2, impl_MenuOk_L2 impl_MenuNew impl_within ⟩] rfl Tryz.func120 rfl rfl rfl (gOf_cons h88 (gOf_cons h137 (gOf_nil))) (by kernel_rfl) [2] 0 (by kernel_rfl) (by kernel_rfl)
    (fun x => .cons (⟨2, lp_impl_MenuOk_2, impl_MenuOk_L2 impl_MenuNew impl_within ⟩ : Lab (OKs [.v false [.bool]])) rfl rfl (by kernel_rfl) (by kernel_rfl) (.nil _))
theorem ok_impl_MenuOk : CtrOK Tryz.prog 120 (con_impl_MenuOk fun _ => g_impl_MenuOk) := (okp_impl_MenuOk _ _ ok_impl_MenuNew ok_impl_within).nice e_impl_MenuOk

theorem okp_impl_Press (impl_MenuNew : Nat → Unit → Option ((Int × Bool × Int × Int × ByteArray))) (impl_MenuOk : Nat → (Int × Bool × Int × Int × ByteArray) → Option (Bool)) (impl_Menu__enter : Nat → (Int × Bool × Int × Int × ByteArray) → Option ((Int × Bool × Int × Int × ByteArray) × (Int × Int × Int × Int) × Bool)) (impl_Menu__top : Nat → (Int × Bool × Int × Int × ByteArray) × Int → Option ((Int × Bool × Int × Int × ByteArray) × (Int × Int × Int × Int) × Bool)) (impl_within : Nat → Int × Int × Int → Option (Bool)) (h88 : CtrOK Tryz.prog 88 (con_impl_MenuNew impl_MenuNew)) (h120 : CtrOK Tryz.prog 120 (con_impl_MenuOk impl_MenuOk)) (h161 : CtrOK Tryz.prog 161 (con_impl_Menu__enter impl_Menu__enter)) (h160 : CtrOK Tryz.prog 160 (con_impl_Menu__top impl_Menu__top)) (h137 : CtrOK Tryz.prog 137 (con_impl_within impl_within)) : CtrOK Tryz.prog 149 (con_impl_Press (impl_Press_ impl_MenuNew impl_MenuOk impl_Menu__enter impl_Menu__top impl_within )) :=
  fun_ok0 (c := Tryz.f149.body.getD .skip) (con_impl_Press (impl_Press_ impl_MenuNew impl_MenuOk impl_Menu__enter impl_Menu__top impl_within )) (gOf [(88, con_impl_MenuNew impl_MenuNew), (120, con_impl_MenuOk impl_MenuOk), (161, con_impl_Menu__enter impl_Menu__enter), (160, con_impl_Menu__top impl_Menu__top), (137, con_impl_within impl_within)]) rfl Tryz.func149 rfl rfl rfl (gOf_cons h88 (gOf_cons h120 (gOf_cons h161 (gOf_cons h160 (gOf_cons h137 (gOf_nil)))))) (by kernel_rfl) (by kernel_rfl)
theorem ok_impl_Press : CtrOK Tryz.prog 149 (con_impl_Press fun _ => g_impl_Press) := (okp_impl_Press _ _ _ _ _ ok_impl_MenuNew ok_impl_MenuOk ok_impl_Menu__enter ok_impl_Menu__top ok_impl_within).nice e_impl_Press

def lp_impl_PressAll_3 : LP := ⟨[(1, false, [.str]), (2, false, [.ptr 0 0]), (4, false, [.ptr 1 0]), (6, false, [.sl 2]), (13, false, [.int .i64]), (14, false, [.int .i64])], [.box [.int .i64, .bool, .int .i64, .int .i64, .str] 32, .box [.int .i64, .bool, .int .i64, .int .i64, .str] 32, .row (.pair (.int .i64) (.pair (.int .i64) (.pair (.int .i64) (.int .i64)))) 91], 0⟩
theorem okp_impl_PressAll (impl_Press : Nat → (Int × Bool × Int × Int × ByteArray) × Int → Option ((Int × Bool × Int × Int × ByteArray) × (Int × Int × Int × Int) × Bool)) (h149 : CtrOK Tryz.prog 149 (con_impl_Press impl_Press)) : CtrOK Tryz.prog 122 (con_impl_PressAll (impl_PressAll_ impl_Press )) :=
  fun_ok (c := Tryz.f122.body.getD .skip) (con_impl_PressAll (impl_PressAll_ impl_Press )) (gOf [(149, con_impl_Press impl_Press)]) [] [⟨3, lp_impl_PressAll_3, impl_PressAll_L3 impl_Press ⟩] rfl Tryz.func122 rfl rfl rfl (gOf_cons h149 (gOf_nil)) (by kernel_rfl) [3] 0 (by kernel_rfl) (by kernel_rfl)
    (fun x => .cons (⟨3, lp_impl_PressAll_3, impl_PressAll_L3 impl_Press ⟩ : Lab (OKs [.v true [.int .i64, .bool, .int .i64, .int .i64, .str], .v false [.own (.pair (.int .i64) (.pair (.int .i64) (.pair (.int .i64) (.int .i64)))) 91]])) rfl rfl (by kernel_rfl) (by kernel_rfl) (.nil _))
theorem ok_impl_PressAll : CtrOK Tryz.prog 122 (con_impl_PressAll fun _ => g_impl_PressAll) := (okp_impl_PressAll _ ok_impl_Press).nice e_impl_PressAll

theorem okp_impl_ordersOf (impl_PressAll : Nat → (Int × Bool × Int × Int × ByteArray) × ByteArray → Option ((Int × Bool × Int × Int × ByteArray) × ((List (Int × (Int × (Int × Int))))))) (impl_ReadOrder : Nat → ByteArray → Option ((Int × Int × Int × Int) × Bool)) (h122 : CtrOK Tryz.prog 122 (con_impl_PressAll impl_PressAll)) (h72 : CtrOK Tryz.prog 72 (con_impl_ReadOrder impl_ReadOrder)) : CtrOK Tryz.prog 70 (con_impl_ordersOf (impl_ordersOf_ impl_PressAll impl_ReadOrder )) :=
  fun_ok0 (c := Tryz.f70.body.getD .skip) (con_impl_ordersOf (impl_ordersOf_ impl_PressAll impl_ReadOrder )) (gOf [(122, con_impl_PressAll impl_PressAll), (72, con_impl_ReadOrder impl_ReadOrder)]) rfl Tryz.func70 rfl rfl rfl (gOf_cons h122 (gOf_cons h72 (gOf_nil))) (by kernel_rfl) (by kernel_rfl)
theorem ok_impl_ordersOf : CtrOK Tryz.prog 70 (con_impl_ordersOf fun _ => g_impl_ordersOf) := (okp_impl_ordersOf _ _ ok_impl_PressAll ok_impl_ReadOrder).nice e_impl_ordersOf

theorem okp_impl_InOk (impl_SenseOk : Nat → Int → Option (Bool)) (h89 : CtrOK Tryz.prog 89 (con_impl_SenseOk impl_SenseOk)) : CtrOK Tryz.prog 39 (con_impl_InOk (impl_InOk_ impl_SenseOk )) :=
  fun_ok0 (c := Tryz.f39.body.getD .skip) (con_impl_InOk (impl_InOk_ impl_SenseOk )) (gOf [(89, con_impl_SenseOk impl_SenseOk)]) rfl Tryz.func39 rfl rfl rfl (gOf_cons h89 (gOf_nil)) (by kernel_rfl) (by kernel_rfl)
theorem ok_impl_InOk : CtrOK Tryz.prog 39 (con_impl_InOk fun _ => g_impl_InOk) := (okp_impl_InOk _ ok_impl_SenseOk).nice e_impl_InOk

theorem okp_impl_isNumber (impl_within : Nat → Int × Int × Int → Option (Bool)) (h137 : CtrOK Tryz.prog 137 (con_impl_within impl_within)) : CtrOK Tryz.prog 121 (con_impl_isNumber (impl_isNumber_ impl_within )) :=
  fun_ok0 (c := Tryz.f121.body.getD .skip) (con_impl_isNumber (impl_isNumber_ impl_within )) (gOf [(137, con_impl_within impl_within)]) rfl Tryz.func121 rfl rfl rfl (gOf_cons h137 (gOf_nil)) (by kernel_rfl) (by kernel_rfl)
theorem ok_impl_isNumber : CtrOK Tryz.prog 121 (con_impl_isNumber fun _ => g_impl_isNumber) := (okp_impl_isNumber _ ok_impl_within).nice e_impl_isNumber

theorem okp_impl_DeviceOk (impl_GuardOk : Nat → (List Int × Int) → Option (Bool)) (impl_MenuOk : Nat → (Int × Bool × Int × Int × ByteArray) → Option (Bool)) (impl_PumpOk : Nat → (Int × Int × Int × Int × Int × Int × Int × Int) → Option (Bool)) (impl_isNumber : Nat → Int → Option (Bool)) (h119 : CtrOK Tryz.prog 119 (con_impl_GuardOk impl_GuardOk)) (h120 : CtrOK Tryz.prog 120 (con_impl_MenuOk impl_MenuOk)) (h118 : CtrOK Tryz.prog 118 (con_impl_PumpOk impl_PumpOk)) (h121 : CtrOK Tryz.prog 121 (con_impl_isNumber impl_isNumber)) : CtrOK Tryz.prog 69 (con_impl_DeviceOk (impl_DeviceOk_ impl_GuardOk impl_MenuOk impl_PumpOk impl_isNumber )) :=
  fun_ok0 (c := Tryz.f69.body.getD .skip) (con_impl_DeviceOk (impl_DeviceOk_ impl_GuardOk impl_MenuOk impl_PumpOk impl_isNumber )) (gOf [(119, con_impl_GuardOk impl_GuardOk), (120, con_impl_MenuOk impl_MenuOk), (118, con_impl_PumpOk impl_PumpOk), (121, con_impl_isNumber impl_isNumber)]) rfl Tryz.func69 rfl rfl rfl (gOf_cons h119 (gOf_cons h120 (gOf_cons h118 (gOf_cons h121 (gOf_nil))))) (by kernel_rfl) (by kernel_rfl)
theorem ok_impl_DeviceOk : CtrOK Tryz.prog 69 (con_impl_DeviceOk fun _ => g_impl_DeviceOk) := (okp_impl_DeviceOk _ _ _ _ ok_impl_GuardOk ok_impl_MenuOk ok_impl_PumpOk ok_impl_isNumber).nice e_impl_DeviceOk

theorem okp_impl_copyDevice (impl_copyGuard : Nat → (List Int × Int) → Option ((List Int × Int))) (h117 : CtrOK Tryz.prog 117 (con_impl_copyGuard impl_copyGuard)) : CtrOK Tryz.prog 68 (con_impl_copyDevice (impl_copyDevice_ impl_copyGuard )) :=
  fun_ok0 (c := Tryz.f68.body.getD .skip) (con_impl_copyDevice (impl_copyDevice_ impl_copyGuard )) (gOf [(117, con_impl_copyGuard impl_copyGuard)]) rfl Tryz.func68 rfl rfl rfl (gOf_cons h117 (gOf_nil)) (by kernel_rfl) (by kernel_rfl)
theorem ok_impl_copyDevice : CtrOK Tryz.prog 68 (con_impl_copyDevice fun _ => g_impl_copyDevice) := (okp_impl_copyDevice _ ok_impl_copyGuard).nice e_impl_copyDevice

def lp_impl_TickDevice_7 : LP := ⟨[(3, false, [.ptr 2 0]), (4, false, [.ptr 3 0]), (5, false, [.ptr 4 0]), (7, false, [.sl 5]), (44, false, [.sl 5]), (45, false, [.int .i64]), (46, false, [.int .i64])], [.dead, .dead, .box [.int .i64, .str, .str] 59, .box [.int .i64, .int .i64, .int .i64, .int .i64, .int .i64, .int .i64, .int .i64, .int .i64, .sl 6, .int .i64, .int .i64, .bool, .int .i64, .int .i64, .str, .sl 7, .int .i64] 35, .box [.int .i64, .int .i64, .int .i64, .int .i64, .int .i64, .int .i64, .int .i64, .int .i64, .sl 8, .int .i64, .int .i64, .bool, .int .i64, .int .i64, .str, .sl 9, .int .i64] 35, .row (.pair (.int .i64) (.pair (.int .i64) (.pair (.int .i64) (.int .i64)))) 91, .row (.int .i64) 0, .row (.int .i64) 0, .row (.int .i64) 3, .row (.pair (.int .i64) (.pair (.int .i64) (.int .i64))) 101], 2⟩
theorem okp_impl_TickDevice (impl_Allow : Nat → (List Int × Int) × Int → Option (Int)) (impl_DeviceOk : Nat → (Int × Int × Int × Int × Int × Int × Int × Int × List Int × Int × Int × Bool × Int × Int × ByteArray × (List (Int × (Int × Int))) × Int) → Option (Bool)) (impl_Device__order : Nat → (Int × Int × Int × Int × Int × Int × Int × Int × List Int × Int × Int × Bool × Int × Int × ByteArray × (List (Int × (Int × Int))) × Int) × (Int × Int × Int × Int) → Option (Bool × (Int × Int × Int × Int × Int × Int × Int × Int × Unit × Int × Int × Bool × Int × Int × ByteArray × Unit × Int))) (impl_Feel : Nat → (List Int × Int) × Int × Bool → Option ((List Int × Int))) (impl_Give : Nat → (Int × Int × Int × Int × Int × Int × Int × Int) × Int → Option ((Int × Int × Int × Int × Int × Int × Int × Int))) (impl_InOk : Nat → (Int × ByteArray × ByteArray) → Option (Bool)) (impl_Pass : Nat → (List Int × Int) × Int → Option ((List Int × Int))) (impl_ReadOrder : Nat → ByteArray → Option ((Int × Int × Int × Int) × Bool)) (impl_Wants : Nat → (Int × Int × Int × Int × Int × Int × Int × Int) → Option (Int)) (impl_copyDevice : Nat → (Int × Int × Int × Int × Int × Int × Int × Int × List Int × Int × Int × Bool × Int × Int × ByteArray × (List (Int × (Int × Int))) × Int) → Option ((Int × Int × Int × Int × Int × Int × Int × Int × List Int × Int × Int × Bool × Int × Int × ByteArray × (List (Int × (Int × Int))) × Int))) (impl_isSeen : Nat → ((List (Int × (Int × (Int × Int))))) → Option (Bool)) (impl_ordersOf : Nat → (Int × Bool × Int × Int × ByteArray) × (Int × ByteArray × ByteArray) → Option ((Int × Bool × Int × Int × ByteArray) × ((List (Int × (Int × (Int × Int))))))) (h75 : CtrOK Tryz.prog 75 (con_impl_Allow impl_Allow)) (h69 : CtrOK Tryz.prog 69 (con_impl_DeviceOk impl_DeviceOk)) (h71 : CtrOK Tryz.prog 71 (con_impl_Device__order impl_Device__order)) (h73 : CtrOK Tryz.prog 73 (con_impl_Feel impl_Feel)) (h77 : CtrOK Tryz.prog 77 (con_impl_Give impl_Give)) (h39 : CtrOK Tryz.prog 39 (con_impl_InOk impl_InOk)) (h78 : CtrOK Tryz.prog 78 (con_impl_Pass impl_Pass)) (h72 : CtrOK Tryz.prog 72 (con_impl_ReadOrder impl_ReadOrder)) (h76 : CtrOK Tryz.prog 76 (con_impl_Wants impl_Wants)) (h68 : CtrOK Tryz.prog 68 (con_impl_copyDevice impl_copyDevice)) (h74 : CtrOK Tryz.prog 74 (con_impl_isSeen impl_isSeen)) (h70 : CtrOK Tryz.prog 70 (con_impl_ordersOf impl_ordersOf)) : CtrOK Tryz.prog 20 (con_impl_TickDevice (impl_TickDevice_ impl_Allow impl_DeviceOk impl_Device__order impl_Feel impl_Give impl_InOk impl_Pass impl_ReadOrder impl_Wants impl_copyDevice impl_isSeen impl_ordersOf )) :=
  fun_ok (c := Tryz.f20.body.getD .skip) (con_impl_TickDevice (impl_TickDevice_ impl_Allow impl_DeviceOk impl_Device__order impl_Feel impl_Give impl_InOk impl_Pass impl_ReadOrder impl_Wants impl_copyDevice impl_isSeen impl_ordersOf )) (gOf [(75, con_impl_Allow impl_Allow), (69, con_impl_DeviceOk impl_DeviceOk), (71, con_impl_Device__order impl_Device__order), (73, con_impl_Feel impl_Feel), (77, con_impl_Give impl_Give), (39, con_impl_InOk impl_InOk), (78, con_impl_Pass impl_Pass), (72, con_impl_ReadOrder impl_ReadOrder), (76, con_impl_Wants impl_Wants), (68, con_impl_copyDevice impl_copyDevice), (74, con_impl_isSeen impl_isSeen), (70, con_impl_ordersOf impl_ordersOf)]) [] [⟨7, lp_impl_TickDevice_7, impl_TickDevice_L7 impl_Allow impl_DeviceOk impl_Device__order impl_Feel impl_Give impl_InOk impl_Pass impl_ReadOrder impl_Wants impl_copyDevice impl_isSeen impl_ordersOf ⟩] rfl Tryz.func20 rfl rfl rfl (gOf_cons h75 (gOf_cons h69 (gOf_cons h71 (gOf_cons h73 (gOf_cons h77 (gOf_cons h39 (gOf_cons h78 (gOf_cons h72 (gOf_cons h76 (gOf_cons h68 (gOf_cons h74 (gOf_cons h70 (gOf_nil))))))))))))) (by kernel_rfl) [7] 2 (by kernel_rfl) (by kernel_rfl)
    (fun x => .cons (⟨7, lp_impl_TickDevice_7, impl_TickDevice_L7 impl_Allow impl_DeviceOk impl_Device__order impl_Feel impl_Give impl_InOk impl_Pass impl_ReadOrder impl_Wants impl_copyDevice impl_isSeen impl_ordersOf ⟩ : Lab (OKs [.v true [.int .i64, .int .i64, .int .i64, .int .i64, .int .i64, .int .i64, .int .i64, .int .i64, .own (.int .i64) 3, .int .i64, .int .i64, .bool, .int .i64, .int .i64, .str, .own (.pair (.int .i64) (.pair (.int .i64) (.int .i64))) 101, .int .i64]])) rfl rfl (by kernel_rfl) (by kernel_rfl) (.nil _))
theorem ok_impl_TickDevice : CtrOK Tryz.prog 20 (con_impl_TickDevice fun _ => g_impl_TickDevice) := (okp_impl_TickDevice _ _ _ _ _ _ _ _ _ _ _ _ ok_impl_Allow ok_impl_DeviceOk ok_impl_Device__order ok_impl_Feel ok_impl_Give ok_impl_InOk ok_impl_Pass ok_impl_ReadOrder ok_impl_Wants ok_impl_copyDevice ok_impl_isSeen ok_impl_ordersOf).nice e_impl_TickDevice

theorem okp_impl_PumpNew : CtrOK Tryz.prog 94 (con_impl_PumpNew (impl_PumpNew_ )) :=
  fun_ok0 (c := Tryz.f94.body.getD .skip) (con_impl_PumpNew (impl_PumpNew_ )) (gOf []) rfl Tryz.func94 rfl rfl rfl (gOf_nil) (by kernel_rfl) (by kernel_rfl)
theorem ok_impl_PumpNew : CtrOK Tryz.prog 94 (con_impl_PumpNew fun _ => g_impl_PumpNew) := (okp_impl_PumpNew  ).nice e_impl_PumpNew

theorem okp_impl_DeviceNew (impl_MenuNew : Nat → Unit → Option ((Int × Bool × Int × Int × ByteArray))) (impl_PumpNew : Nat → Unit → Option ((Int × Int × Int × Int × Int × Int × Int × Int))) (h88 : CtrOK Tryz.prog 88 (con_impl_MenuNew impl_MenuNew)) (h94 : CtrOK Tryz.prog 94 (con_impl_PumpNew impl_PumpNew)) : CtrOK Tryz.prog 40 (con_impl_DeviceNew (impl_DeviceNew_ impl_MenuNew impl_PumpNew )) :=
  fun_ok0 (c := Tryz.f40.body.getD .skip) (con_impl_DeviceNew (impl_DeviceNew_ impl_MenuNew impl_PumpNew )) (gOf [(88, con_impl_MenuNew impl_MenuNew), (94, con_impl_PumpNew impl_PumpNew)]) rfl Tryz.func40 rfl rfl rfl (gOf_cons h88 (gOf_cons h94 (gOf_nil))) (by kernel_rfl) (by kernel_rfl)
theorem ok_impl_DeviceNew : CtrOK Tryz.prog 40 (con_impl_DeviceNew fun _ => g_impl_DeviceNew) := (okp_impl_DeviceNew _ _ ok_impl_MenuNew ok_impl_PumpNew).nice e_impl_DeviceNew

def lp_impl_RunDevice_4 : LP := ⟨[(0, false, [.sl 0]), (2, false, [.ptr 1 0]), (13, false, [.sl 0]), (14, false, [.int .i64]), (15, false, [.int .i64])], [.ro (.pair (.int .i64) (.pair .str .str)) 0, .box [.int .i64, .int .i64, .int .i64, .int .i64, .int .i64, .int .i64, .int .i64, .int .i64, .sl 2, .int .i64, .int .i64, .bool, .int .i64, .int .i64, .str, .sl 3, .int .i64] 35, .row (.int .i64) 0, .row (.int .i64) 0], 1⟩
def lp_impl_RunDevice_11 : LP := ⟨[(2, false, [.ptr 1 0]), (6, false, [.ptr 2 0]), (25, false, [.sl 0]), (26, false, [.int .i64]), (27, false, [.int .i64])], [.ro (.pair (.int .i64) (.pair .str .str)) 0, .box [.int .i64, .int .i64, .int .i64, .int .i64, .int .i64, .int .i64, .int .i64, .int .i64, .sl 3, .int .i64, .int .i64, .bool, .int .i64, .int .i64, .str, .sl 4, .int .i64] 35, .box [.int .i64, .int .i64, .int .i64, .int .i64, .int .i64, .int .i64, .int .i64, .int .i64, .sl 5, .int .i64, .int .i64, .bool, .int .i64, .int .i64, .str, .sl 6, .int .i64] 35, .row (.int .i64) 0, .row (.int .i64) 0, .row (.int .i64) 3, .row (.pair (.int .i64) (.pair (.int .i64) (.int .i64))) 101], 1⟩
theorem okp_impl_RunDevice (impl_DeviceNew : Nat → Unit → Option ((Int × Int × Int × Int × Int × Int × Int × Int × List Int × Int × Int × Bool × Int × Int × ByteArray × (List (Int × (Int × Int))) × Int))) (impl_InOk : Nat → (Int × ByteArray × ByteArray) → Option (Bool)) (impl_TickDevice : Nat → (Int × Int × Int × Int × Int × Int × Int × Int × List Int × Int × Int × Bool × Int × Int × ByteArray × (List (Int × (Int × Int))) × Int) × (Int × ByteArray × ByteArray) → Option ((Int × Int × Int × Int × Int × Int × Int × Int × List Int × Int × Int × Bool × Int × Int × ByteArray × (List (Int × (Int × Int))) × Int))) (h40 : CtrOK Tryz.prog 40 (con_impl_DeviceNew impl_DeviceNew)) (h39 : CtrOK Tryz.prog 39 (con_impl_InOk impl_InOk)) (h20 : CtrOK Tryz.prog 20 (con_impl_TickDevice impl_TickDevice)) : CtrOK Tryz.prog 9 (con_impl_RunDevice (impl_RunDevice_ impl_DeviceNew impl_InOk impl_TickDevice )) :=
  fun_ok (c := Tryz.f9.body.getD .skip) (con_impl_RunDevice (impl_RunDevice_ impl_DeviceNew impl_InOk impl_TickDevice )) (gOf [(40, con_impl_DeviceNew impl_DeviceNew), (39, con_impl_InOk impl_InOk), (20, con_impl_TickDevice impl_TickDevice)]) [] [⟨4, lp_impl_RunDevice_4, impl_RunDevice_L4 impl_DeviceNew impl_InOk impl_TickDevice ⟩, ⟨11, lp_impl_RunDevice_11, impl_RunDevice_L11 impl_DeviceNew impl_InOk impl_TickDevice ⟩] rfl Tryz.func9 rfl rfl rfl (gOf_cons h40 (gOf_cons h39 (gOf_cons h20 (gOf_nil)))) (by kernel_rfl) [4, 11] 1 (by kernel_rfl) (by kernel_rfl)
    (fun x => .cons (⟨4, lp_impl_RunDevice_4, impl_RunDevice_L4 impl_DeviceNew impl_InOk impl_TickDevice ⟩ : Lab (OKs [.v true [.int .i64, .int .i64, .int .i64, .int .i64, .int .i64, .int .i64, .int .i64, .int .i64, .own (.int .i64) 3, .int .i64, .int .i64, .bool, .int .i64, .int .i64, .str, .own (.pair (.int .i64) (.pair (.int .i64) (.int .i64))) 101, .int .i64], .v false [.bool]])) rfl rfl (by kernel_rfl) (by kernel_rfl) (.cons (⟨11, lp_impl_RunDevice_11, impl_RunDevice_L11 impl_DeviceNew impl_InOk impl_TickDevice ⟩ : Lab (OKs [.v true [.int .i64, .int .i64, .int .i64, .int .i64, .int .i64, .int .i64, .int .i64, .int .i64, .own (.int .i64) 3, .int .i64, .int .i64, .bool, .int .i64, .int .i64, .str, .own (.pair (.int .i64) (.pair (.int .i64) (.int .i64))) 101, .int .i64], .v false [.bool]])) rfl rfl (by kernel_rfl) (by kernel_rfl) (.nil _)))
theorem ok_impl_RunDevice : CtrOK Tryz.prog 9 (con_impl_RunDevice fun _ => g_impl_RunDevice) := (okp_impl_RunDevice _ _ _ ok_impl_DeviceNew ok_impl_InOk ok_impl_TickDevice).nice e_impl_RunDevice

theorem okp_laws_toIn : CtrOK Tryz.prog 19 (con_laws_toIn (laws_toIn_ )) :=
  fun_ok0 (c := Tryz.f19.body.getD .skip) (con_laws_toIn (laws_toIn_ )) (gOf []) rfl Tryz.func19 rfl rfl rfl (gOf_nil) (by kernel_rfl) (by kernel_rfl)
theorem ok_laws_toIn : CtrOK Tryz.prog 19 (con_laws_toIn fun _ => g_laws_toIn) := (okp_laws_toIn  ).nice e_laws_toIn

def lp_laws_toInS_3 : LP := ⟨[(0, false, [.sl 0]), (3, false, [.sl 1]), (4, false, [.int .i64])], [.ro (.pair (.int .i64) (.pair .str .str)) 0, .row (.pair (.int .i64) (.pair .str .str)) 59], 1⟩
theorem okp_laws_toInS (laws_toIn : Nat → (Int × ByteArray × ByteArray) → Option ((Int × ByteArray × ByteArray))) (h19 : CtrOK Tryz.prog 19 (con_laws_toIn laws_toIn)) : CtrOK Tryz.prog 8 (con_laws_toInS (laws_toInS_ laws_toIn )) :=
  fun_ok (c := Tryz.f8.body.getD .skip) (con_laws_toInS (laws_toInS_ laws_toIn )) (gOf [(19, con_laws_toIn laws_toIn)]) [] [⟨3, lp_laws_toInS_3, laws_toInS_L3 laws_toIn ⟩] rfl Tryz.func8 rfl rfl rfl (gOf_cons h19 (gOf_nil)) (by kernel_rfl) [3] 1 (by kernel_rfl) (by kernel_rfl)
    (fun x => .cons (⟨3, lp_laws_toInS_3, laws_toInS_L3 laws_toIn ⟩ : Lab (OKs [.v false [.own (.pair (.int .i64) (.pair .str .str)) 59]])) rfl rfl (by kernel_rfl) (by kernel_rfl) (.nil _))
theorem ok_laws_toInS : CtrOK Tryz.prog 8 (con_laws_toInS fun _ => g_laws_toInS) := (okp_laws_toInS _ ok_laws_toIn).nice e_laws_toInS

def lp_laws_markTickS_2 : LP := ⟨[(0, false, [.sl 0]), (1, false, [.int .i64]), (5, false, [.int .i64])], [.row (.pair (.int .i64) (.pair (.int .i64) (.int .i64))) 101], 1⟩
theorem okp_laws_markTickS : CtrOK Tryz.prog 48 (con_laws_markTickS (laws_markTickS_ )) :=
  fun_ok (c := Tryz.f48.body.getD .skip) (con_laws_markTickS (laws_markTickS_ )) (gOf []) [] [⟨2, lp_laws_markTickS_2, laws_markTickS_L2 ⟩] rfl Tryz.func48 rfl rfl rfl (gOf_nil) (by kernel_rfl) [2] 1 (by kernel_rfl) (by kernel_rfl)
    (fun x => .cons (⟨2, lp_laws_markTickS_2, laws_markTickS_L2 ⟩ : Lab (OKs [.v false [.int .i64], .row (.pair (.int .i64) (.pair (.int .i64) (.int .i64))) 101])) rfl rfl (by kernel_rfl) (by kernel_rfl) (.nil _))
theorem ok_laws_markTickS : CtrOK Tryz.prog 48 (con_laws_markTickS fun _ => g_laws_markTickS) := (okp_laws_markTickS  ).nice e_laws_markTickS

def lp_laws_markIntS_2 : LP := ⟨[(0, false, [.sl 0]), (1, false, [.int .i64]), (5, false, [.int .i64])], [.row (.int .i64) 3], 1⟩
theorem okp_laws_markIntS : CtrOK Tryz.prog 98 (con_laws_markIntS (laws_markIntS_ )) :=
  fun_ok (c := Tryz.f98.body.getD .skip) (con_laws_markIntS (laws_markIntS_ )) (gOf []) [] [⟨2, lp_laws_markIntS_2, laws_markIntS_L2 ⟩] rfl Tryz.func98 rfl rfl rfl (gOf_nil) (by kernel_rfl) [2] 1 (by kernel_rfl) (by kernel_rfl)
    (fun x => .cons (⟨2, lp_laws_markIntS_2, laws_markIntS_L2 ⟩ : Lab (OKs [.v false [.int .i64], .row (.int .i64) 3])) rfl rfl (by kernel_rfl) (by kernel_rfl) (.nil _))
theorem ok_laws_markIntS : CtrOK Tryz.prog 98 (con_laws_markIntS fun _ => g_laws_markIntS) := (okp_laws_markIntS  ).nice e_laws_markIntS

theorem okp_laws_markGuard (laws_markIntS : Nat → List Int × Int → Option (Int × List Int)) (h98 : CtrOK Tryz.prog 98 (con_laws_markIntS laws_markIntS)) : CtrOK Tryz.prog 47 (con_laws_markGuard (laws_markGuard_ laws_markIntS )) :=
  fun_ok0 (c := Tryz.f47.body.getD .skip) (con_laws_markGuard (laws_markGuard_ laws_markIntS )) (gOf [(98, con_laws_markIntS laws_markIntS)]) rfl Tryz.func47 rfl rfl rfl (gOf_cons h98 (gOf_nil)) (by kernel_rfl) (by kernel_rfl)
theorem ok_laws_markGuard : CtrOK Tryz.prog 47 (con_laws_markGuard fun _ => g_laws_markGuard) := (okp_laws_markGuard _ ok_laws_markIntS).nice e_laws_markGuard

theorem okp_laws_markDevice (laws_markGuard : Nat → (List Int × Int) × Int → Option (Int × List Int)) (laws_markTickS : Nat → ((List (Int × (Int × Int)))) × Int → Option (Int × (List (Int × (Int × Int))))) (h47 : CtrOK Tryz.prog 47 (con_laws_markGuard laws_markGuard)) (h48 : CtrOK Tryz.prog 48 (con_laws_markTickS laws_markTickS)) : CtrOK Tryz.prog 13 (con_laws_markDevice (laws_markDevice_ laws_markGuard laws_markTickS )) :=
  fun_ok0 (c := Tryz.f13.body.getD .skip) (con_laws_markDevice (laws_markDevice_ laws_markGuard laws_markTickS )) (gOf [(47, con_laws_markGuard laws_markGuard), (48, con_laws_markTickS laws_markTickS)]) rfl Tryz.func13 rfl rfl rfl (gOf_cons h47 (gOf_cons h48 (gOf_nil))) (by kernel_rfl) (by kernel_rfl)
theorem ok_laws_markDevice : CtrOK Tryz.prog 13 (con_laws_markDevice fun _ => g_laws_markDevice) := (okp_laws_markDevice _ _ ok_laws_markGuard ok_laws_markTickS).nice e_laws_markDevice

def lp_laws_markText_4 : LP := ⟨[(0, false, [.int .i64]), (3, false, [.str])], [], 0⟩
theorem okp_laws_markText : CtrOK Tryz.prog 46 (con_laws_markText (laws_markText_ )) :=
  fun_ok (c := Tryz.f46.body.getD .skip) (con_laws_markText (laws_markText_ )) (gOf []) [] [⟨4, lp_laws_markText_4, laws_markText_L4 ⟩] rfl Tryz.func46 rfl rfl rfl (gOf_nil) (by kernel_rfl) [4] 0 (by kernel_rfl) (by kernel_rfl)
    (fun x => .cons (⟨4, lp_laws_markText_4, laws_markText_L4 ⟩ : Lab (OKs [.v false [.str]])) rfl rfl (by kernel_rfl) (by kernel_rfl) (.nil _))
theorem ok_laws_markText : CtrOK Tryz.prog 46 (con_laws_markText fun _ => g_laws_markText) := (okp_laws_markText  ).nice e_laws_markText

def lp_laws_markInS_2 : LP := ⟨[(0, false, [.sl 0]), (1, false, [.int .i64]), (5, false, [.int .i64])], [.row (.pair (.int .i64) (.pair .str .str)) 59], 1⟩
theorem okp_laws_markInS (laws_markText : Nat → Int → Option (ByteArray)) (h46 : CtrOK Tryz.prog 46 (con_laws_markText laws_markText)) : CtrOK Tryz.prog 12 (con_laws_markInS (laws_markInS_ laws_markText )) :=
  fun_ok (c := Tryz.f12.body.getD .skip) (con_laws_markInS (laws_markInS_ laws_markText )) (gOf [(46, con_laws_markText laws_markText)]) [] [⟨2, lp_laws_markInS_2, laws_markInS_L2 laws_markText ⟩] rfl Tryz.func12 rfl rfl rfl (gOf_cons h46 (gOf_nil)) (by kernel_rfl) [2] 1 (by kernel_rfl) (by kernel_rfl)
    (fun x => .cons (⟨2, lp_laws_markInS_2, laws_markInS_L2 laws_markText ⟩ : Lab (OKs [.v false [.int .i64], .row (.pair (.int .i64) (.pair .str .str)) 59])) rfl rfl (by kernel_rfl) (by kernel_rfl) (.nil _))
theorem ok_laws_markInS : CtrOK Tryz.prog 12 (con_laws_markInS fun _ => g_laws_markInS) := (okp_laws_markInS _ ok_laws_markText).nice e_laws_markInS

theorem okp_laws_eqIn : CtrOK Tryz.prog 45 (con_laws_eqIn (laws_eqIn_ )) :=
  fun_ok0 (c := Tryz.f45.body.getD .skip) (con_laws_eqIn (laws_eqIn_ )) (gOf []) rfl Tryz.func45 rfl rfl rfl (gOf_nil) (by kernel_rfl) (by kernel_rfl)
theorem ok_laws_eqIn : CtrOK Tryz.prog 45 (con_laws_eqIn fun _ => g_laws_eqIn) := (okp_laws_eqIn  ).nice e_laws_eqIn

def lp_laws_eqInS_4 : LP := ⟨[(0, false, [.sl 0]), (1, false, [.sl 1]), (5, false, [.int .i64])], [.ro (.pair (.int .i64) (.pair .str .str)) 0, .ro (.pair (.int .i64) (.pair .str .str)) 0], 2⟩
theorem okp_laws_eqInS (laws_eqIn : Nat → (Int × ByteArray × ByteArray) × (Int × ByteArray × ByteArray) → Option (Bool)) (h45 : CtrOK Tryz.prog 45 (con_laws_eqIn laws_eqIn)) : CtrOK Tryz.prog 11 (con_laws_eqInS (laws_eqInS_ laws_eqIn )) :=
  fun_ok (c := Tryz.f11.body.getD .skip) (con_laws_eqInS (laws_eqInS_ laws_eqIn )) (gOf [(45, con_laws_eqIn laws_eqIn)]) [] [⟨4, lp_laws_eqInS_4, laws_eqInS_L4 laws_eqIn ⟩] rfl Tryz.func11 rfl rfl rfl (gOf_cons h45 (gOf_nil)) (by kernel_rfl) [4] 2 (by kernel_rfl) (by kernel_rfl)
    (fun x => .cons (⟨4, lp_laws_eqInS_4, laws_eqInS_L4 laws_eqIn ⟩ : Lab (OKs [.v false [.bool]])) rfl rfl (by kernel_rfl) (by kernel_rfl) (.nil _))
theorem ok_laws_eqInS : CtrOK Tryz.prog 11 (con_laws_eqInS fun _ => g_laws_eqInS) := (okp_laws_eqInS _ ok_laws_eqIn).nice e_laws_eqInS

theorem okp_spec_l15Less : CtrOK Tryz.prog 111 (con_spec_l15Less (spec_l15Less_ )) :=
  fun_ok0 (c := Tryz.f111.body.getD .skip) (con_spec_l15Less (spec_l15Less_ )) (gOf []) rfl Tryz.func111 rfl rfl rfl (gOf_nil) (by kernel_rfl) (by kernel_rfl)
theorem ok_spec_l15Less : CtrOK Tryz.prog 111 (con_spec_l15Less fun _ => g_spec_l15Less) := (okp_spec_l15Less  ).nice e_spec_l15Less

def lp_spec_l16Sum_3 : LP := ⟨[(0, false, [.sl 0]), (3, false, [.int .i64]), (4, false, [.int .i64])], [.ro (.int .i64) 0], 1⟩
theorem okp_spec_l16Sum : CtrOK Tryz.prog 139 (con_spec_l16Sum (spec_l16Sum_ )) :=
  fun_ok (c := Tryz.f139.body.getD .skip) (con_spec_l16Sum (spec_l16Sum_ )) (gOf []) [] [⟨3, lp_spec_l16Sum_3, spec_l16Sum_L3 ⟩] rfl Tryz.func139 rfl rfl rfl (gOf_nil) (by kernel_rfl) [3] 1 (by kernel_rfl) (by kernel_rfl)
    (fun x => .cons (⟨3, lp_spec_l16Sum_3, spec_l16Sum_L3 ⟩ : Lab (OKs [.v false [.int .i64]])) rfl rfl (by kernel_rfl) (by kernel_rfl) (.nil _))
theorem ok_spec_l16Sum : CtrOK Tryz.prog 139 (con_spec_l16Sum fun _ => g_spec_l16Sum) := (okp_spec_l16Sum  ).nice e_spec_l16Sum

theorem okp_spec_RoomOf (spec_l16Sum : Nat → List Int → Option (Int)) (h139 : CtrOK Tryz.prog 139 (con_spec_l16Sum spec_l16Sum)) : CtrOK Tryz.prog 112 (con_spec_RoomOf (spec_RoomOf_ spec_l16Sum )) :=
  fun_ok0 (c := Tryz.f112.body.getD .skip) (con_spec_RoomOf (spec_RoomOf_ spec_l16Sum )) (gOf [(139, con_spec_l16Sum spec_l16Sum)]) rfl Tryz.func112 rfl rfl rfl (gOf_cons h139 (gOf_nil)) (by kernel_rfl) (by kernel_rfl)
theorem ok_spec_RoomOf : CtrOK Tryz.prog 112 (con_spec_RoomOf fun _ => g_spec_RoomOf) := (okp_spec_RoomOf _ ok_spec_l16Sum).nice e_spec_RoomOf

theorem okp_spec_l01In : CtrOK Tryz.prog 105 (con_spec_l01In (spec_l01In_ )) :=
  fun_ok0 (c := Tryz.f105.body.getD .skip) (con_spec_l01In (spec_l01In_ )) (gOf []) rfl Tryz.func105 rfl rfl rfl (gOf_nil) (by kernel_rfl) (by kernel_rfl)
theorem ok_spec_l01In : CtrOK Tryz.prog 105 (con_spec_l01In fun _ => g_spec_l01In) := (okp_spec_l01In  ).nice e_spec_l01In

theorem okp_spec_SenseOk (spec_l01In : Nat → Int × Int × Int → Option (Bool)) (h105 : CtrOK Tryz.prog 105 (con_spec_l01In spec_l01In)) : CtrOK Tryz.prog 91 (con_spec_SenseOk (spec_SenseOk_ spec_l01In )) :=
  fun_ok0 (c := Tryz.f91.body.getD .skip) (con_spec_SenseOk (spec_SenseOk_ spec_l01In )) (gOf [(105, con_spec_l01In spec_l01In)]) rfl Tryz.func91 rfl rfl rfl (gOf_cons h105 (gOf_nil)) (by kernel_rfl) (by kernel_rfl)
theorem ok_spec_SenseOk : CtrOK Tryz.prog 91 (con_spec_SenseOk fun _ => g_spec_SenseOk) := (okp_spec_SenseOk _ ok_spec_l01In).nice e_spec_SenseOk

def lp_spec_GuardOk_4 : LP := ⟨[(1, false, [.ptr 1 0]), (3, false, [.int .i64])], [.ro (.int .i64) 0, .box [.sl 0, .int .i64] 30], 1⟩
theorem okp_spec_GuardOk (spec_SenseOk : Nat → Int → Option (Bool)) (spec_l01In : Nat → Int × Int × Int → Option (Bool)) (spec_l16Sum : Nat → List Int → Option (Int)) (h91 : CtrOK Tryz.prog 91 (con_spec_SenseOk spec_SenseOk)) (h105 : CtrOK Tryz.prog 105 (con_spec_l01In spec_l01In)) (h139 : CtrOK Tryz.prog 139 (con_spec_l16Sum spec_l16Sum)) : CtrOK Tryz.prog 103 (con_spec_GuardOk (spec_GuardOk_ spec_SenseOk spec_l01In spec_l16Sum )) :=
  fun_ok (c := Tryz.f103.body.getD .skip) (con_spec_GuardOk (spec_GuardOk_ spec_SenseOk spec_l01In spec_l16Sum )) (gOf [(91, con_spec_SenseOk spec_SenseOk), (105, con_spec_l01In spec_l01In), (139, con_spec_l16Sum spec_l16Sum)]) [] [⟨4, lp_spec_GuardOk_4, spec_GuardOk_L4 spec_SenseOk spec_l01In spec_l16Sum ⟩] rfl Tryz.func103 rfl rfl rfl (gOf_cons h91 (gOf_cons h105 (gOf_cons h139 (gOf_nil)))) (by kernel_rfl) [4] 1 (by kernel_rfl) (by kernel_rfl)
    (fun x => .cons (⟨4, lp_spec_GuardOk_4, spec_GuardOk_L4 spec_SenseOk spec_l01In spec_l16Sum ⟩ : Lab (OKs [.v false [.bool]])) rfl rfl (by kernel_rfl) (by kernel_rfl) (.nil _))
theorem ok_spec_GuardOk : CtrOK Tryz.prog 103 (con_spec_GuardOk fun _ => g_spec_GuardOk) := (okp_spec_GuardOk _ _ _ ok_spec_SenseOk ok_spec_l01In ok_spec_l16Sum).nice e_spec_GuardOk

theorem okp_spec_l16Copy : CtrOK Tryz.prog 101 (con_spec_l16Copy (spec_l16Copy_ )) :=
  fun_ok0 (c := Tryz.f101.body.getD .skip) (con_spec_l16Copy (spec_l16Copy_ )) (gOf []) rfl Tryz.func101 rfl rfl rfl (gOf_nil) (by kernel_rfl) (by kernel_rfl)
theorem ok_spec_l16Copy : CtrOK Tryz.prog 101 (con_spec_l16Copy fun _ => g_spec_l16Copy) := (okp_spec_l16Copy  ).nice e_spec_l16Copy

theorem okp_spec_Pass (spec_GuardOk : Nat → (List Int × Int) → Option (Bool)) (spec_RoomOf : Nat → (List Int × Int) → Option (Int)) (spec_l15Less : Nat → Int × Int → Option (Int)) (spec_l16Copy : Nat → (List Int × Int) → Option ((List Int × Int))) (h103 : CtrOK Tryz.prog 103 (con_spec_GuardOk spec_GuardOk)) (h112 : CtrOK Tryz.prog 112 (con_spec_RoomOf spec_RoomOf)) (h111 : CtrOK Tryz.prog 111 (con_spec_l15Less spec_l15Less)) (h101 : CtrOK Tryz.prog 101 (con_spec_l16Copy spec_l16Copy)) : CtrOK Tryz.prog 63 (con_spec_Pass (spec_Pass_ spec_GuardOk spec_RoomOf spec_l15Less spec_l16Copy )) :=
  fun_ok0 (c := Tryz.f63.body.getD .skip) (con_spec_Pass (spec_Pass_ spec_GuardOk spec_RoomOf spec_l15Less spec_l16Copy )) (gOf [(103, con_spec_GuardOk spec_GuardOk), (112, con_spec_RoomOf spec_RoomOf), (111, con_spec_l15Less spec_l15Less), (101, con_spec_l16Copy spec_l16Copy)]) rfl Tryz.func63 rfl rfl rfl (gOf_cons h103 (gOf_cons h112 (gOf_cons h111 (gOf_cons h101 (gOf_nil))))) (by kernel_rfl) (by kernel_rfl)
theorem ok_spec_Pass : CtrOK Tryz.prog 63 (con_spec_Pass fun _ => g_spec_Pass) := (okp_spec_Pass _ _ _ _ ok_spec_GuardOk ok_spec_RoomOf ok_spec_l15Less ok_spec_l16Copy).nice e_spec_Pass

theorem okp_spec_RateOk (spec_l01In : Nat → Int × Int × Int → Option (Bool)) (h105 : CtrOK Tryz.prog 105 (con_spec_l01In spec_l01In)) : CtrOK Tryz.prog 138 (con_spec_RateOk (spec_RateOk_ spec_l01In )) :=
  fun_ok0 (c := Tryz.f138.body.getD .skip) (con_spec_RateOk (spec_RateOk_ spec_l01In )) (gOf [(105, con_spec_l01In spec_l01In)]) rfl Tryz.func138 rfl rfl rfl (gOf_cons h105 (gOf_nil)) (by kernel_rfl) (by kernel_rfl)
theorem ok_spec_RateOk : CtrOK Tryz.prog 138 (con_spec_RateOk fun _ => g_spec_RateOk) := (okp_spec_RateOk _ ok_spec_l01In).nice e_spec_RateOk

theorem okp_spec_StepRate (spec_RateOk : Nat → (Int × Int × Int) → Option (Bool)) (h138 : CtrOK Tryz.prog 138 (con_spec_RateOk spec_RateOk)) : CtrOK Tryz.prog 113 (con_spec_StepRate (spec_StepRate_ spec_RateOk )) :=
  fun_ok0 (c := Tryz.f113.body.getD .skip) (con_spec_StepRate (spec_StepRate_ spec_RateOk )) (gOf [(138, con_spec_RateOk spec_RateOk)]) rfl Tryz.func113 rfl rfl rfl (gOf_cons h138 (gOf_nil)) (by kernel_rfl) (by kernel_rfl)
theorem ok_spec_StepRate : CtrOK Tryz.prog 113 (con_spec_StepRate fun _ => g_spec_StepRate) := (okp_spec_StepRate _ ok_spec_RateOk).nice e_spec_StepRate

theorem okp_spec_PumpOk (spec_RateOk : Nat → (Int × Int × Int) → Option (Bool)) (spec_l01In : Nat → Int × Int × Int → Option (Bool)) (h138 : CtrOK Tryz.prog 138 (con_spec_RateOk spec_RateOk)) (h105 : CtrOK Tryz.prog 105 (con_spec_l01In spec_l01In)) : CtrOK Tryz.prog 102 (con_spec_PumpOk (spec_PumpOk_ spec_RateOk spec_l01In )) :=
  fun_ok0 (c := Tryz.f102.body.getD .skip) (con_spec_PumpOk (spec_PumpOk_ spec_RateOk spec_l01In )) (gOf [(138, con_spec_RateOk spec_RateOk), (105, con_spec_l01In spec_l01In)]) rfl Tryz.func102 rfl rfl rfl (gOf_cons h138 (gOf_cons h105 (gOf_nil))) (by kernel_rfl) (by kernel_rfl)
theorem ok_spec_PumpOk : CtrOK Tryz.prog 102 (con_spec_PumpOk fun _ => g_spec_PumpOk) := (okp_spec_PumpOk _ _ ok_spec_RateOk ok_spec_l01In).nice e_spec_PumpOk

theorem okp_spec_Wants (spec_PumpOk : Nat → (Int × Int × Int × Int × Int × Int × Int × Int) → Option (Bool)) (spec_StepRate : Nat → (Int × Int × Int) → Option ((Int × Int × Int) × Int)) (spec_l15Less : Nat → Int × Int → Option (Int)) (h102 : CtrOK Tryz.prog 102 (con_spec_PumpOk spec_PumpOk)) (h113 : CtrOK Tryz.prog 113 (con_spec_StepRate spec_StepRate)) (h111 : CtrOK Tryz.prog 111 (con_spec_l15Less spec_l15Less)) : CtrOK Tryz.prog 61 (con_spec_Wants (spec_Wants_ spec_PumpOk spec_StepRate spec_l15Less )) :=
  fun_ok0 (c := Tryz.f61.body.getD .skip) (con_spec_Wants (spec_Wants_ spec_PumpOk spec_StepRate spec_l15Less )) (gOf [(102, con_spec_PumpOk spec_PumpOk), (113, con_spec_StepRate spec_StepRate), (111, con_spec_l15Less spec_l15Less)]) rfl Tryz.func61 rfl rfl rfl (gOf_cons h102 (gOf_cons h113 (gOf_cons h111 (gOf_nil)))) (by kernel_rfl) (by kernel_rfl)
theorem ok_spec_Wants : CtrOK Tryz.prog 61 (con_spec_Wants fun _ => g_spec_Wants) := (okp_spec_Wants _ _ _ ok_spec_PumpOk ok_spec_StepRate ok_spec_l15Less).nice e_spec_Wants

theorem okp_spec_Give (spec_PumpOk : Nat → (Int × Int × Int × Int × Int × Int × Int × Int) → Option (Bool)) (spec_StepRate : Nat → (Int × Int × Int) → Option ((Int × Int × Int) × Int)) (spec_Wants : Nat → (Int × Int × Int × Int × Int × Int × Int × Int) → Option (Int)) (spec_l15Less : Nat → Int × Int → Option (Int)) (h102 : CtrOK Tryz.prog 102 (con_spec_PumpOk spec_PumpOk)) (h113 : CtrOK Tryz.prog 113 (con_spec_StepRate spec_StepRate)) (h61 : CtrOK Tryz.prog 61 (con_spec_Wants spec_Wants)) (h111 : CtrOK Tryz.prog 111 (con_spec_l15Less spec_l15Less)) : CtrOK Tryz.prog 62 (con_spec_Give (spec_Give_ spec_PumpOk spec_StepRate spec_Wants spec_l15Less )) :=
  fun_ok0 (c := Tryz.f62.body.getD .skip) (con_spec_Give (spec_Give_ spec_PumpOk spec_StepRate spec_Wants spec_l15Less )) (gOf [(102, con_spec_PumpOk spec_PumpOk), (113, con_spec_StepRate spec_StepRate), (61, con_spec_Wants spec_Wants), (111, con_spec_l15Less spec_l15Less)]) rfl Tryz.func62 rfl rfl rfl (gOf_cons h102 (gOf_cons h113 (gOf_cons h61 (gOf_cons h111 (gOf_nil))))) (by kernel_rfl) (by kernel_rfl)
theorem ok_spec_Give : CtrOK Tryz.prog 62 (con_spec_Give fun _ => g_spec_Give) := (okp_spec_Give _ _ _ _ ok_spec_PumpOk ok_spec_StepRate ok_spec_Wants ok_spec_l15Less).nice e_spec_Give

theorem okp_spec_Allow (spec_GuardOk : Nat → (List Int × Int) → Option (Bool)) (spec_RoomOf : Nat → (List Int × Int) → Option (Int)) (spec_l15Less : Nat → Int × Int → Option (Int)) (h103 : CtrOK Tryz.prog 103 (con_spec_GuardOk spec_GuardOk)) (h112 : CtrOK Tryz.prog 112 (con_spec_RoomOf spec_RoomOf)) (h111 : CtrOK Tryz.prog 111 (con_spec_l15Less spec_l15Less)) : CtrOK Tryz.prog 60 (con_spec_Allow (spec_Allow_ spec_GuardOk spec_RoomOf spec_l15Less )) :=
  fun_ok0 (c := Tryz.f60.body.getD .skip) (con_spec_Allow (spec_Allow_ spec_GuardOk spec_RoomOf spec_l15Less )) (gOf [(103, con_spec_GuardOk spec_GuardOk), (112, con_spec_RoomOf spec_RoomOf), (111, con_spec_l15Less spec_l15Less)]) rfl Tryz.func60 rfl rfl rfl (gOf_cons h103 (gOf_cons h112 (gOf_cons h111 (gOf_nil)))) (by kernel_rfl) (by kernel_rfl)
theorem ok_spec_Allow : CtrOK Tryz.prog 60 (con_spec_Allow fun _ => g_spec_Allow) := (okp_spec_Allow _ _ _ ok_spec_GuardOk ok_spec_RoomOf ok_spec_l15Less).nice e_spec_Allow

def lp_spec_l13Both_4 : LP := ⟨[(0, false, [.int .i64]), (1, false, [.int .i64]), (5, false, [.int .i64]), (6, false, [.int .i64]), (7, false, [.int .i64])], [], 0⟩
theorem okp_spec_l13Both : CtrOK Tryz.prog 92 (con_spec_l13Both (spec_l13Both_ )) :=
  fun_ok (c := Tryz.f92.body.getD .skip) (con_spec_l13Both (spec_l13Both_ )) (gOf []) [] [⟨4, lp_spec_l13Both_4, spec_l13Both_L4 ⟩] rfl Tryz.func92 rfl rfl rfl (gOf_nil) (by kernel_rfl) [4] 0 (by kernel_rfl) (by kernel_rfl)
    (fun x => .cons (⟨4, lp_spec_l13Both_4, spec_l13Both_L4 ⟩ : Lab (OKs [.v false [.int .i64]])) rfl rfl (by kernel_rfl) (by kernel_rfl) (.nil _))
theorem ok_spec_l13Both : CtrOK Tryz.prog 92 (con_spec_l13Both fun _ => g_spec_l13Both) := (okp_spec_l13Both  ).nice e_spec_l13Both

theorem okp_spec_Feel (spec_GuardOk : Nat → (List Int × Int) → Option (Bool)) (spec_SenseOk : Nat → Int → Option (Bool)) (spec_l13Both : Nat → Int × Int → Option (Int)) (spec_l16Copy : Nat → (List Int × Int) → Option ((List Int × Int))) (h103 : CtrOK Tryz.prog 103 (con_spec_GuardOk spec_GuardOk)) (h91 : CtrOK Tryz.prog 91 (con_spec_SenseOk spec_SenseOk)) (h92 : CtrOK Tryz.prog 92 (con_spec_l13Both spec_l13Both)) (h101 : CtrOK Tryz.prog 101 (con_spec_l16Copy spec_l16Copy)) : CtrOK Tryz.prog 59 (con_spec_Feel (spec_Feel_ spec_GuardOk spec_SenseOk spec_l13Both spec_l16Copy )) :=
  fun_ok0 (c := Tryz.f59.body.getD .skip) (con_spec_Feel (spec_Feel_ spec_GuardOk spec_SenseOk spec_l13Both spec_l16Copy )) (gOf [(103, con_spec_GuardOk spec_GuardOk), (91, con_spec_SenseOk spec_SenseOk), (92, con_spec_l13Both spec_l13Both), (101, con_spec_l16Copy spec_l16Copy)]) rfl Tryz.func59 rfl rfl rfl (gOf_cons h103 (gOf_cons h91 (gOf_cons h92 (gOf_cons h101 (gOf_nil))))) (by kernel_rfl) (by kernel_rfl)
theorem ok_spec_Feel : CtrOK Tryz.prog 59 (con_spec_Feel fun _ => g_spec_Feel) := (okp_spec_Feel _ _ _ _ ok_spec_GuardOk ok_spec_SenseOk ok_spec_l13Both ok_spec_l16Copy).nice e_spec_Feel

theorem okp_spec_OrderOk (spec_l01In : Nat → Int × Int × Int → Option (Bool)) (h105 : CtrOK Tryz.prog 105 (con_spec_l01In spec_l01In)) : CtrOK Tryz.prog 110 (con_spec_OrderOk (spec_OrderOk_ spec_l01In )) :=
  fun_ok0 (c := Tryz.f110.body.getD .skip) (con_spec_OrderOk (spec_OrderOk_ spec_l01In )) (gOf [(105, con_spec_l01In spec_l01In)]) rfl Tryz.func110 rfl rfl rfl (gOf_cons h105 (gOf_nil)) (by kernel_rfl) (by kernel_rfl)
theorem ok_spec_OrderOk : CtrOK Tryz.prog 110 (con_spec_OrderOk fun _ => g_spec_OrderOk) := (okp_spec_OrderOk _ ok_spec_l01In).nice e_spec_OrderOk

theorem okp_spec_Take (spec_OrderOk : Nat → (Int × Int × Int × Int) → Option (Bool)) (spec_PumpOk : Nat → (Int × Int × Int × Int × Int × Int × Int × Int) → Option (Bool)) (h110 : CtrOK Tryz.prog 110 (con_spec_OrderOk spec_OrderOk)) (h102 : CtrOK Tryz.prog 102 (con_spec_PumpOk spec_PumpOk)) : CtrOK Tryz.prog 58 (con_spec_Take (spec_Take_ spec_OrderOk spec_PumpOk )) :=
  fun_ok0 (c := Tryz.f58.body.getD .skip) (con_spec_Take (spec_Take_ spec_OrderOk spec_PumpOk )) (gOf [(110, con_spec_OrderOk spec_OrderOk), (102, con_spec_PumpOk spec_PumpOk)]) rfl Tryz.func58 rfl rfl rfl (gOf_cons h110 (gOf_cons h102 (gOf_nil))) (by kernel_rfl) (by kernel_rfl)
theorem ok_spec_Take : CtrOK Tryz.prog 58 (con_spec_Take fun _ => g_spec_Take) := (okp_spec_Take _ _ ok_spec_OrderOk ok_spec_PumpOk).nice e_spec_Take

theorem okp_spec_l02Four : CtrOK Tryz.prog 142 (con_spec_l02Four (spec_l02Four_ )) :=
  fun_ok0 (c := Tryz.f142.body.getD .skip) (con_spec_l02Four (spec_l02Four_ )) (gOf []) rfl Tryz.func142 rfl rfl rfl (gOf_nil) (by kernel_rfl) (by kernel_rfl)
theorem ok_spec_l02Four : CtrOK Tryz.prog 142 (con_spec_l02Four fun _ => g_spec_l02Four) := (okp_spec_l02Four  ).nice e_spec_l02Four

def lp_spec_SumMore_2 : LP := ⟨[(0, false, [.int .u32]), (1, false, [.str]), (5, false, [.int .i64])], [], 0⟩
def lp_spec_SumMore_6 : LP := ⟨[(0, false, [.int .u32]), (1, false, [.str]), (5, false, [.int .i64]), (6, false, [.int .i64])], [], 0⟩
theorem okp_spec_SumMore : CtrOK Tryz.prog 159 (con_spec_SumMore (spec_SumMore_ )) :=
  fun_ok (c := Tryz.f159.body.getD .skip) (con_spec_SumMore (spec_SumMore_ )) (gOf []) [] [⟨2, lp_spec_SumMore_2, spec_SumMore_L2 ⟩, ⟨6, lp_spec_SumMore_6, spec_SumMore_L6 ⟩] rfl Tryz.func159 rfl rfl rfl (gOf_nil) (by kernel_rfl) [2, 6] 0 (by kernel_rfl) (by kernel_rfl)
    (fun x => .cons (⟨2, lp_spec_SumMore_2, spec_SumMore_L2 ⟩ : Lab (OKs [.v false [.int .u32]])) rfl rfl (by kernel_rfl) (by kernel_rfl) (.cons (⟨6, lp_spec_SumMore_6, spec_SumMore_L6 ⟩ : Lab (OKs [.v false [.int .u32]])) rfl rfl (by kernel_rfl) (by kernel_rfl) (.nil _)))
theorem ok_spec_SumMore : CtrOK Tryz.prog 159 (con_spec_SumMore fun _ => g_spec_SumMore) := (okp_spec_SumMore  ).nice e_spec_SumMore

theorem okp_spec_SumOf (spec_SumMore : Nat → Int × ByteArray → Option (Int)) (h159 : CtrOK Tryz.prog 159 (con_spec_SumMore spec_SumMore)) : CtrOK Tryz.prog 143 (con_spec_SumOf (spec_SumOf_ spec_SumMore )) :=
  fun_ok0 (c := Tryz.f143.body.getD .skip) (con_spec_SumOf (spec_SumOf_ spec_SumMore )) (gOf [(159, con_spec_SumMore spec_SumMore)]) rfl Tryz.func143 rfl rfl rfl (gOf_cons h159 (gOf_nil)) (by kernel_rfl) (by kernel_rfl)
theorem ok_spec_SumOf : CtrOK Tryz.prog 143 (con_spec_SumOf fun _ => g_spec_SumOf) := (okp_spec_SumOf _ ok_spec_SumMore).nice e_spec_SumOf

theorem okp_spec_Sealed (spec_SumOf : Nat → ByteArray → Option (Int)) (spec_l02Four : Nat → Int → Option (ByteArray)) (h143 : CtrOK Tryz.prog 143 (con_spec_SumOf spec_SumOf)) (h142 : CtrOK Tryz.prog 142 (con_spec_l02Four spec_l02Four)) : CtrOK Tryz.prog 145 (con_spec_Sealed (spec_Sealed_ spec_SumOf spec_l02Four )) :=
  fun_ok0 (c := Tryz.f145.body.getD .skip) (con_spec_Sealed (spec_Sealed_ spec_SumOf spec_l02Four )) (gOf [(143, con_spec_SumOf spec_SumOf), (142, con_spec_l02Four spec_l02Four)]) rfl Tryz.func145 rfl rfl rfl (gOf_cons h143 (gOf_cons h142 (gOf_nil))) (by kernel_rfl) (by kernel_rfl)
theorem ok_spec_Sealed : CtrOK Tryz.prog 145 (con_spec_Sealed fun _ => g_spec_Sealed) := (okp_spec_Sealed _ _ ok_spec_SumOf ok_spec_l02Four).nice e_spec_Sealed

def lp_spec_l01Var_2 : LP := ⟨[(0, false, [.int .i64]), (3, false, [.sl 0])], [.row (.int .u8) 5], 0⟩
theorem okp_spec_l01Var : CtrOK Tryz.prog 146 (con_spec_l01Var (spec_l01Var_ )) :=
  fun_ok (c := Tryz.f146.body.getD .skip) (con_spec_l01Var (spec_l01Var_ )) (gOf []) [] [⟨2, lp_spec_l01Var_2, spec_l01Var_L2 ⟩] rfl Tryz.func146 rfl rfl rfl (gOf_nil) (by kernel_rfl) [2] 0 (by kernel_rfl) (by kernel_rfl)
    (fun x => .cons (⟨2, lp_spec_l01Var_2, spec_l01Var_L2 ⟩ : Lab (OKs [.v false [.str]])) rfl rfl (by kernel_rfl) (by kernel_rfl) (.nil _))
theorem ok_spec_l01Var : CtrOK Tryz.prog 146 (con_spec_l01Var fun _ => g_spec_l01Var) := (okp_spec_l01Var  ).nice e_spec_l01Var

theorem okp_spec_OrderText (spec_OrderOk : Nat → (Int × Int × Int × Int) → Option (Bool)) (spec_Sealed : Nat → ByteArray → Option (ByteArray × Bool)) (spec_l01Var : Nat → Int → Option (ByteArray)) (h110 : CtrOK Tryz.prog 110 (con_spec_OrderOk spec_OrderOk)) (h145 : CtrOK Tryz.prog 145 (con_spec_Sealed spec_Sealed)) (h146 : CtrOK Tryz.prog 146 (con_spec_l01Var spec_l01Var)) : CtrOK Tryz.prog 109 (con_spec_OrderText (spec_OrderText_ spec_OrderOk spec_Sealed spec_l01Var )) :=
  fun_ok0 (c := Tryz.f109.body.getD .skip) (con_spec_OrderText (spec_OrderText_ spec_OrderOk spec_Sealed spec_l01Var )) (gOf [(110, con_spec_OrderOk spec_OrderOk), (145, con_spec_Sealed spec_Sealed), (146, con_spec_l01Var spec_l01Var)]) rfl Tryz.func109 rfl rfl rfl (gOf_cons h110 (gOf_cons h145 (gOf_cons h146 (gOf_nil)))) (by kernel_rfl) (by kernel_rfl)
theorem ok_spec_OrderText : CtrOK Tryz.prog 109 (con_spec_OrderText fun _ => g_spec_OrderText) := (okp_spec_OrderText _ _ _ ok_spec_OrderOk ok_spec_Sealed ok_spec_l01Var).nice e_spec_OrderText

def lp_spec_ReadVar_6 : LP := ⟨[(0, false, [.str]), (1, false, [.int .i64]), (7, false, [.int .i64]), (8, false, [.int .i64]), (9, false, [.int .i64])], [], 0⟩
theorem okp_spec_ReadVar (spec_l01In : Nat → Int × Int × Int → Option (Bool)) (spec_l01Var : Nat → Int → Option (ByteArray)) (h105 : CtrOK Tryz.prog 105 (con_spec_l01In spec_l01In)) (h146 : CtrOK Tryz.prog 146 (con_spec_l01Var spec_l01Var)) : CtrOK Tryz.prog 144 (con_spec_ReadVar (spec_ReadVar_ spec_l01In spec_l01Var )) :=
  fun_ok (c := Tryz.f144.body.getD .skip) (con_spec_ReadVar (spec_ReadVar_ spec_l01In spec_l01Var )) (gOf [(105, con_spec_l01In spec_l01In), (146, con_spec_l01Var spec_l01Var)]) [] [⟨6, lp_spec_ReadVar_6, spec_ReadVar_L6 spec_l01In spec_l01Var ⟩] rfl Tryz.func144 rfl rfl rfl (gOf_cons h105 (gOf_cons h146 (gOf_nil))) (by kernel_rfl) [6] 0 (by kernel_rfl) (by kernel_rfl)
    (fun x => .cons (⟨6, lp_spec_ReadVar_6, spec_ReadVar_L6 spec_l01In spec_l01Var ⟩ : Lab (OKs [.v false [.int .i64], .v false [.int .i64], .v false [.bool]])) rfl rfl (by kernel_rfl) (by kernel_rfl) (.nil _))
theorem ok_spec_ReadVar : CtrOK Tryz.prog 144 (con_spec_ReadVar fun _ => g_spec_ReadVar) := (okp_spec_ReadVar _ _ ok_spec_l01In ok_spec_l01Var).nice e_spec_ReadVar

theorem okp_spec_l11Var (spec_ReadVar : Nat → ByteArray × Int → Option (Int × Int × Bool)) (h144 : CtrOK Tryz.prog 144 (con_spec_ReadVar spec_ReadVar)) : CtrOK Tryz.prog 108 (con_spec_l11Var (spec_l11Var_ spec_ReadVar )) :=
  fun_ok0 (c := Tryz.f108.body.getD .skip) (con_spec_l11Var (spec_l11Var_ spec_ReadVar )) (gOf [(144, con_spec_ReadVar spec_ReadVar)]) rfl Tryz.func108 rfl rfl rfl (gOf_cons h144 (gOf_nil)) (by kernel_rfl) (by kernel_rfl)
theorem ok_spec_l11Var : CtrOK Tryz.prog 108 (con_spec_l11Var fun _ => g_spec_l11Var) := (okp_spec_l11Var _ ok_spec_ReadVar).nice e_spec_l11Var

theorem okp_spec_Unsealed (spec_SumOf : Nat → ByteArray → Option (Int)) (spec_l02Four : Nat → Int → Option (ByteArray)) (h143 : CtrOK Tryz.prog 143 (con_spec_SumOf spec_SumOf)) (h142 : CtrOK Tryz.prog 142 (con_spec_l02Four spec_l02Four)) : CtrOK Tryz.prog 107 (con_spec_Unsealed (spec_Unsealed_ spec_SumOf spec_l02Four )) :=
  fun_ok0 (c := Tryz.f107.body.getD .skip) (con_spec_Unsealed (spec_Unsealed_ spec_SumOf spec_l02Four )) (gOf [(143, con_spec_SumOf spec_SumOf), (142, con_spec_l02Four spec_l02Four)]) rfl Tryz.func107 rfl rfl rfl (gOf_cons h143 (gOf_cons h142 (gOf_nil))) (by kernel_rfl) (by kernel_rfl)
theorem ok_spec_Unsealed : CtrOK Tryz.prog 107 (con_spec_Unsealed fun _ => g_spec_Unsealed) := (okp_spec_Unsealed _ _ ok_spec_SumOf ok_spec_l02Four).nice e_spec_Unsealed

theorem okp_spec_ReadOrder (spec_OrderText : Nat → (Int × Int × Int × Int) → Option (ByteArray × Bool)) (spec_Unsealed : Nat → ByteArray → Option (ByteArray × Bool)) (spec_l11Var : Nat → (ByteArray × Int × Bool) → Option (Int × (ByteArray × Int × Bool))) (h109 : CtrOK Tryz.prog 109 (con_spec_OrderText spec_OrderText)) (h107 : CtrOK Tryz.prog 107 (con_spec_Unsealed spec_Unsealed)) (h108 : CtrOK Tryz.prog 108 (con_spec_l11Var spec_l11Var)) : CtrOK Tryz.prog 57 (con_spec_ReadOrder (spec_ReadOrder_ spec_OrderText spec_Unsealed spec_l11Var )) :=
  fun_ok0 (c := Tryz.f57.body.getD .skip) (con_spec_ReadOrder (spec_ReadOrder_ spec_OrderText spec_Unsealed spec_l11Var )) (gOf [(109, con_spec_OrderText spec_OrderText), (107, con_spec_Unsealed spec_Unsealed), (108, con_spec_l11Var spec_l11Var)]) rfl Tryz.func57 rfl rfl rfl (gOf_cons h109 (gOf_cons h107 (gOf_cons h108 (gOf_nil)))) (by kernel_rfl) (by kernel_rfl)
theorem ok_spec_ReadOrder : CtrOK Tryz.prog 57 (con_spec_ReadOrder fun _ => g_spec_ReadOrder) := (okp_spec_ReadOrder _ _ _ ok_spec_OrderText ok_spec_Unsealed ok_spec_l11Var).nice e_spec_ReadOrder

theorem okp_spec_MenuNew : CtrOK Tryz.prog 90 (con_spec_MenuNew (spec_MenuNew_ )) :=
  fun_ok0 (c := Tryz.f90.body.getD .skip) (con_spec_MenuNew (spec_MenuNew_ )) (gOf []) rfl Tryz.func90 rfl rfl rfl (gOf_nil) (by kernel_rfl) (by kernel_rfl)
theorem ok_spec_MenuNew : CtrOK Tryz.prog 90 (con_spec_MenuNew fun _ => g_spec_MenuNew) := (okp_spec_MenuNew  ).nice e_spec_MenuNew

def lp_spec_l17Number_3 : LP := ⟨[(0, false, [.str]), (3, false, [.int .i64]), (4, false, [.int .i64])], [], 0⟩
theorem okp_spec_l17Number : CtrOK Tryz.prog 141 (con_spec_l17Number (spec_l17Number_ )) :=
  fun_ok (c := Tryz.f141.body.getD .skip) (con_spec_l17Number (spec_l17Number_ )) (gOf []) [] [⟨3, lp_spec_l17Number_3, spec_l17Number_L3 ⟩] rfl Tryz.func141 rfl rfl rfl (gOf_nil) (by kernel_rfl) [3] 0 (by kernel_rfl) (by kernel_rfl)
    (fun x => .cons (⟨3, lp_spec_l17Number_3, spec_l17Number_L3 ⟩ : Lab (OKs [.v false [.int .i64]])) rfl rfl (by kernel_rfl) (by kernel_rfl) (.nil _))
theorem ok_spec_l17Number : CtrOK Tryz.prog 141 (con_spec_l17Number fun _ => g_spec_l17Number) := (okp_spec_l17Number  ).nice e_spec_l17Number

theorem okp_spec_l17Top : CtrOK Tryz.prog 140 (con_spec_l17Top (spec_l17Top_ )) :=
  fun_ok0 (c := Tryz.f140.body.getD .skip) (con_spec_l17Top (spec_l17Top_ )) (gOf []) rfl Tryz.func140 rfl rfl rfl (gOf_nil) (by kernel_rfl) (by kernel_rfl)
theorem ok_spec_l17Top : CtrOK Tryz.prog 140 (con_spec_l17Top fun _ => g_spec_l17Top) := (okp_spec_l17Top  ).nice e_spec_l17Top

def lp_spec_MenuOk_4 : LP := ⟨[(1, false, [.ptr 0 0]), (3, false, [.int .i64])], [.box [.int .i64, .bool, .int .i64, .int .i64, .str] 32], 0⟩
theorem okp_spec_MenuOk (spec_l01In : Nat → Int × Int × Int → Option (Bool)) (h105 : CtrOK Tryz.prog 105 (con_spec_l01In spec_l01In)) : CtrOK Tryz.prog 104 (con_spec_MenuOk (spec_MenuOk_ spec_l01In )) :=
  fun_ok (c := Tryz.f104.body.getD .skip) (con_spec_MenuOk (spec_MenuOk_ spec_l01In )) (gOf [(105, con_spec_l01In spec_l01In)]) [] [⟨4, lp_spec_MenuOk_4, spec_MenuOk_L4 spec_l01In ⟩] rfl Tryz.func104 rfl rfl rfl (gOf_cons h105 (gOf_nil)) (by kernel_rfl) [4] 0 (by kernel_rfl) (by kernel_rfl)
    (fun x => .cons (⟨4, lp_spec_MenuOk_4, spec_MenuOk_L4 spec_l01In ⟩ : Lab (OKs [.v false [.bool]])) rfl rfl (by kernel_rfl) (by kernel_rfl) (.nil _))
theorem ok_spec_MenuOk : CtrOK Tryz.prog 104 (con_spec_MenuOk fun _ => g_spec_MenuOk) := (okp_spec_MenuOk _ ok_spec_l01In).nice e_spec_MenuOk

theorem okp_spec_Press (spec_MenuNew : Nat → Unit → Option ((Int × Bool × Int × Int × ByteArray))) (spec_MenuOk : Nat → (Int × Bool × Int × Int × ByteArray) → Option (Bool)) (spec_OrderOk : Nat → (Int × Int × Int × Int) → Option (Bool)) (spec_l17Number : Nat → ByteArray → Option (Int)) (spec_l17Top : Nat → (Int × Bool × Int × Int × ByteArray) × Int → Option ((Int × Bool × Int × Int × ByteArray) × (Int × Int × Int × Int) × Bool)) (h90 : CtrOK Tryz.prog 90 (con_spec_MenuNew spec_MenuNew)) (h104 : CtrOK Tryz.prog 104 (con_spec_MenuOk spec_MenuOk)) (h110 : CtrOK Tryz.prog 110 (con_spec_OrderOk spec_OrderOk)) (h141 : CtrOK Tryz.prog 141 (con_spec_l17Number spec_l17Number)) (h140 : CtrOK Tryz.prog 140 (con_spec_l17Top spec_l17Top)) : CtrOK Tryz.prog 106 (con_spec_Press (spec_Press_ spec_MenuNew spec_MenuOk spec_OrderOk spec_l17Number spec_l17Top )) :=
  fun_ok0 (c := Tryz.f106.body.getD .skip) (con_spec_Press (spec_Press_ spec_MenuNew spec_MenuOk spec_OrderOk spec_l17Number spec_l17Top )) (gOf [(90, con_spec_MenuNew spec_MenuNew), (104, con_spec_MenuOk spec_MenuOk), (110, con_spec_OrderOk spec_OrderOk), (141, con_spec_l17Number spec_l17Number), (140, con_spec_l17Top spec_l17Top)]) rfl Tryz.func106 rfl rfl rfl (gOf_cons h90 (gOf_cons h104 (gOf_cons h110 (gOf_cons h141 (gOf_cons h140 (gOf_nil)))))) (by kernel_rfl) (by kernel_rfl)
theorem ok_spec_Press : CtrOK Tryz.prog 106 (con_spec_Press fun _ => g_spec_Press) := (okp_spec_Press _ _ _ _ _ ok_spec_MenuNew ok_spec_MenuOk ok_spec_OrderOk ok_spec_l17Number ok_spec_l17Top).nice e_spec_Press

def lp_spec_PressAll_3 : LP := ⟨[(1, false, [.str]), (2, false, [.ptr 0 0]), (4, false, [.ptr 1 0]), (6, false, [.sl 2]), (7, false, [.int .i64])], [.box [.int .i64, .bool, .int .i64, .int .i64, .str] 32, .box [.int .i64, .bool, .int .i64, .int .i64, .str] 32, .row (.pair (.int .i64) (.pair (.int .i64) (.pair (.int .i64) (.int .i64)))) 91], 0⟩
theorem okp_spec_PressAll (spec_Press : Nat → (Int × Bool × Int × Int × ByteArray) × Int → Option ((Int × Bool × Int × Int × ByteArray) × (Int × Int × Int × Int) × Bool)) (h106 : CtrOK Tryz.prog 106 (con_spec_Press spec_Press)) : CtrOK Tryz.prog 56 (con_spec_PressAll (spec_PressAll_ spec_Press )) :=
  fun_ok (c := Tryz.f56.body.getD .skip) (con_spec_PressAll (spec_PressAll_ spec_Press )) (gOf [(106, con_spec_Press spec_Press)]) [] [⟨3, lp_spec_PressAll_3, spec_PressAll_L3 spec_Press ⟩] rfl Tryz.func56 rfl rfl rfl (gOf_cons h106 (gOf_nil)) (by kernel_rfl) [3] 0 (by kernel_rfl) (by kernel_rfl)
    (fun x => .cons (⟨3, lp_spec_PressAll_3, spec_PressAll_L3 spec_Press ⟩ : Lab (OKs [.v true [.int .i64, .bool, .int .i64, .int .i64, .str], .v false [.own (.pair (.int .i64) (.pair (.int .i64) (.pair (.int .i64) (.int .i64)))) 91]])) rfl rfl (by kernel_rfl) (by kernel_rfl) (.nil _))
theorem ok_spec_PressAll : CtrOK Tryz.prog 56 (con_spec_PressAll fun _ => g_spec_PressAll) := (okp_spec_PressAll _ ok_spec_Press).nice e_spec_PressAll

theorem okp_spec_InOk (spec_SenseOk : Nat → Int → Option (Bool)) (h91 : CtrOK Tryz.prog 91 (con_spec_SenseOk spec_SenseOk)) : CtrOK Tryz.prog 37 (con_spec_InOk (spec_InOk_ spec_SenseOk )) :=
  fun_ok0 (c := Tryz.f37.body.getD .skip) (con_spec_InOk (spec_InOk_ spec_SenseOk )) (gOf [(91, con_spec_SenseOk spec_SenseOk)]) rfl Tryz.func37 rfl rfl rfl (gOf_cons h91 (gOf_nil)) (by kernel_rfl) (by kernel_rfl)
theorem ok_spec_InOk : CtrOK Tryz.prog 37 (con_spec_InOk fun _ => g_spec_InOk) := (okp_spec_InOk _ ok_spec_SenseOk).nice e_spec_InOk

theorem okp_spec_DeviceOk (spec_GuardOk : Nat → (List Int × Int) → Option (Bool)) (spec_MenuOk : Nat → (Int × Bool × Int × Int × ByteArray) → Option (Bool)) (spec_PumpOk : Nat → (Int × Int × Int × Int × Int × Int × Int × Int) → Option (Bool)) (spec_l01In : Nat → Int × Int × Int → Option (Bool)) (h103 : CtrOK Tryz.prog 103 (con_spec_GuardOk spec_GuardOk)) (h104 : CtrOK Tryz.prog 104 (con_spec_MenuOk spec_MenuOk)) (h102 : CtrOK Tryz.prog 102 (con_spec_PumpOk spec_PumpOk)) (h105 : CtrOK Tryz.prog 105 (con_spec_l01In spec_l01In)) : CtrOK Tryz.prog 55 (con_spec_DeviceOk (spec_DeviceOk_ spec_GuardOk spec_MenuOk spec_PumpOk spec_l01In )) :=
  fun_ok0 (c := Tryz.f55.body.getD .skip) (con_spec_DeviceOk (spec_DeviceOk_ spec_GuardOk spec_MenuOk spec_PumpOk spec_l01In )) (gOf [(103, con_spec_GuardOk spec_GuardOk), (104, con_spec_MenuOk spec_MenuOk), (102, con_spec_PumpOk spec_PumpOk), (105, con_spec_l01In spec_l01In)]) rfl Tryz.func55 rfl rfl rfl (gOf_cons h103 (gOf_cons h104 (gOf_cons h102 (gOf_cons h105 (gOf_nil))))) (by kernel_rfl) (by kernel_rfl)
theorem ok_spec_DeviceOk : CtrOK Tryz.prog 55 (con_spec_DeviceOk fun _ => g_spec_DeviceOk) := (okp_spec_DeviceOk _ _ _ _ ok_spec_GuardOk ok_spec_MenuOk ok_spec_PumpOk ok_spec_l01In).nice e_spec_DeviceOk

theorem okp_spec_l18Copy (spec_l16Copy : Nat → (List Int × Int) → Option ((List Int × Int))) (h101 : CtrOK Tryz.prog 101 (con_spec_l16Copy spec_l16Copy)) : CtrOK Tryz.prog 54 (con_spec_l18Copy (spec_l18Copy_ spec_l16Copy )) :=
  fun_ok0 (c := Tryz.f54.body.getD .skip) (con_spec_l18Copy (spec_l18Copy_ spec_l16Copy )) (gOf [(101, con_spec_l16Copy spec_l16Copy)]) rfl Tryz.func54 rfl rfl rfl (gOf_cons h101 (gOf_nil)) (by kernel_rfl) (by kernel_rfl)
theorem ok_spec_l18Copy : CtrOK Tryz.prog 54 (con_spec_l18Copy fun _ => g_spec_l18Copy) := (okp_spec_l18Copy _ ok_spec_l16Copy).nice e_spec_l18Copy

def lp_spec_TickDevice_13 : LP := ⟨[(2, false, [.ptr 2 0]), (3, false, [.ptr 3 0]), (4, false, [.ptr 4 0]), (5, false, [.ptr 5 0]), (7, false, [.sl 6]), (10, false, [.bool]), (11, false, [.int .i64])], [.ro (.int .i64) 0, .ro (.pair (.int .i64) (.pair (.int .i64) (.int .i64))) 0, .box [.int .i64, .int .i64, .int .i64, .int .i64, .int .i64, .int .i64, .int .i64, .int .i64, .sl 0, .int .i64, .int .i64, .bool, .int .i64, .int .i64, .str, .sl 1, .int .i64] 35, .box [.int .i64, .str, .str] 59, .box [.int .i64, .int .i64, .int .i64, .int .i64, .int .i64, .int .i64, .int .i64, .int .i64, .sl 7, .int .i64, .int .i64, .bool, .int .i64, .int .i64, .str, .sl 8, .int .i64] 35, .box [.int .i64, .int .i64, .int .i64, .int .i64, .int .i64, .int .i64, .int .i64, .int .i64, .sl 9, .int .i64, .int .i64, .bool, .int .i64, .int .i64, .str, .sl 10, .int .i64] 35, .row (.pair (.int .i64) (.pair (.int .i64) (.pair (.int .i64) (.int .i64)))) 91, .row (.int .i64) 0, .row (.int .i64) 0, .row (.int .i64) 3, .row (.pair (.int .i64) (.pair (.int .i64) (.int .i64))) 101], 2⟩
theorem okp_spec_TickDevice (spec_Allow : Nat → (List Int × Int) × Int → Option (Int)) (spec_DeviceOk : Nat → (Int × Int × Int × Int × Int × Int × Int × Int × List Int × Int × Int × Bool × Int × Int × ByteArray × (List (Int × (Int × Int))) × Int) → Option (Bool)) (spec_Feel : Nat → (List Int × Int) × Int × Bool → Option ((List Int × Int))) (spec_Give : Nat → (Int × Int × Int × Int × Int × Int × Int × Int) × Int → Option ((Int × Int × Int × Int × Int × Int × Int × Int))) (spec_InOk : Nat → (Int × ByteArray × ByteArray) → Option (Bool)) (spec_Pass : Nat → (List Int × Int) × Int → Option ((List Int × Int))) (spec_PressAll : Nat → (Int × Bool × Int × Int × ByteArray) × ByteArray → Option ((Int × Bool × Int × Int × ByteArray) × ((List (Int × (Int × (Int × Int))))))) (spec_ReadOrder : Nat → ByteArray → Option ((Int × Int × Int × Int) × Bool)) (spec_Take : Nat → (Int × Int × Int × Int × Int × Int × Int × Int) × (Int × Int × Int × Int) → Option ((Int × Int × Int × Int × Int × Int × Int × Int) × Bool)) (spec_Wants : Nat → (Int × Int × Int × Int × Int × Int × Int × Int) → Option (Int)) (spec_l18Copy : Nat → (Int × Int × Int × Int × Int × Int × Int × Int × List Int × Int × Int × Bool × Int × Int × ByteArray × (List (Int × (Int × Int))) × Int) → Option ((Int × Int × Int × Int × Int × Int × Int × Int × List Int × Int × Int × Bool × Int × Int × ByteArray × (List (Int × (Int × Int))) × Int))) (h60 : CtrOK Tryz.prog 60 (con_spec_Allow spec_Allow)) (h55 : CtrOK Tryz.prog 55 (con_spec_DeviceOk spec_DeviceOk)) (h59 : CtrOK Tryz.prog 59 (con_spec_Feel spec_Feel)) (h62 : CtrOK Tryz.prog 62 (con_spec_Give spec_Give)) (h37 : CtrOK Tryz.prog 37 (con_spec_InOk spec_InOk)) (h63 : CtrOK Tryz.prog 63 (con_spec_Pass spec_Pass)) (h56 : CtrOK Tryz.prog 56 (con_spec_PressAll spec_PressAll)) (h57 : CtrOK Tryz.prog 57 (con_spec_ReadOrder spec_ReadOrder)) (h58 : CtrOK Tryz.prog 58 (con_spec_Take spec_Take)) (h61 : CtrOK Tryz.prog 61 (con_spec_Wants spec_Wants)) (h54 : CtrOK Tryz.prog 54 (con_spec_l18Copy spec_l18Copy)) : CtrOK Tryz.prog 17 (con_spec_TickDevice (spec_TickDevice_ spec_Allow spec_DeviceOk spec_Feel spec_Give spec_InOk spec_Pass spec_PressAll spec_ReadOrder spec_Take spec_Wants spec_l18Copy )) :=
  fun_ok (c := Tryz.f17.body.getD .skip) (con_spec_TickDevice (spec_TickDevice_ spec_Allow spec_DeviceOk spec_Feel spec_Give spec_InOk spec_Pass spec_PressAll spec_ReadOrder spec_Take spec_Wants spec_l18Copy )) (gOf [(60, con_spec_Allow spec_Allow), (55, con_spec_DeviceOk spec_DeviceOk), (59, con_spec_Feel spec_Feel), (62, con_spec_Give spec_Give), (37, con_spec_InOk spec_InOk), (63, con_spec_Pass spec_Pass), (56, con_spec_PressAll spec_PressAll), (57, con_spec_ReadOrder spec_ReadOrder), (58, con_spec_Take spec_Take), (61, con_spec_Wants spec_Wants), (54, con_spec_l18Copy spec_l18Copy)]) [] [⟨13, lp_spec_TickDevice_13, spec_TickDevice_L13 spec_Allow spec_DeviceOk spec_Feel spec_Give spec_InOk spec_Pass spec_PressAll spec_ReadOrder spec_Take spec_Wants spec_l18Copy ⟩] rfl Tryz.func17 rfl rfl rfl (gOf_cons h60 (gOf_cons h55 (gOf_cons h59 (gOf_cons h62 (gOf_cons h37 (gOf_cons h63 (gOf_cons h56 (gOf_cons h57 (gOf_cons h58 (gOf_cons h61 (gOf_cons h54 (gOf_nil)))))))))))) (by kernel_rfl) [13] 2 (by kernel_rfl) (by kernel_rfl)
    (fun x => .cons (⟨13, lp_spec_TickDevice_13, spec_TickDevice_L13 spec_Allow spec_DeviceOk spec_Feel spec_Give spec_InOk spec_Pass spec_PressAll spec_ReadOrder spec_Take spec_Wants spec_l18Copy ⟩ : Lab (OKs [.v true [.int .i64, .int .i64, .int .i64, .int .i64, .int .i64, .int .i64, .int .i64, .int .i64, .own (.int .i64) 3, .int .i64, .int .i64, .bool, .int .i64, .int .i64, .str, .own (.pair (.int .i64) (.pair (.int .i64) (.int .i64))) 101, .int .i64]])) rfl rfl (by kernel_rfl) (by kernel_rfl) (.nil _))
theorem ok_spec_TickDevice : CtrOK Tryz.prog 17 (con_spec_TickDevice fun _ => g_spec_TickDevice) := (okp_spec_TickDevice _ _ _ _ _ _ _ _ _ _ _ ok_spec_Allow ok_spec_DeviceOk ok_spec_Feel ok_spec_Give ok_spec_InOk ok_spec_Pass ok_spec_PressAll ok_spec_ReadOrder ok_spec_Take ok_spec_Wants ok_spec_l18Copy).nice e_spec_TickDevice

theorem okp_spec_PumpNew : CtrOK Tryz.prog 93 (con_spec_PumpNew (spec_PumpNew_ )) :=
  fun_ok0 (c := Tryz.f93.body.getD .skip) (con_spec_PumpNew (spec_PumpNew_ )) (gOf []) rfl Tryz.func93 rfl rfl rfl (gOf_nil) (by kernel_rfl) (by kernel_rfl)
theorem ok_spec_PumpNew : CtrOK Tryz.prog 93 (con_spec_PumpNew fun _ => g_spec_PumpNew) := (okp_spec_PumpNew  ).nice e_spec_PumpNew

theorem okp_spec_DeviceNew (spec_MenuNew : Nat → Unit → Option ((Int × Bool × Int × Int × ByteArray))) (spec_PumpNew : Nat → Unit → Option ((Int × Int × Int × Int × Int × Int × Int × Int))) (h90 : CtrOK Tryz.prog 90 (con_spec_MenuNew spec_MenuNew)) (h93 : CtrOK Tryz.prog 93 (con_spec_PumpNew spec_PumpNew)) : CtrOK Tryz.prog 38 (con_spec_DeviceNew (spec_DeviceNew_ spec_MenuNew spec_PumpNew )) :=
  fun_ok0 (c := Tryz.f38.body.getD .skip) (con_spec_DeviceNew (spec_DeviceNew_ spec_MenuNew spec_PumpNew )) (gOf [(90, con_spec_MenuNew spec_MenuNew), (93, con_spec_PumpNew spec_PumpNew)]) rfl Tryz.func38 rfl rfl rfl (gOf_cons h90 (gOf_cons h93 (gOf_nil))) (by kernel_rfl) (by kernel_rfl)
theorem ok_spec_DeviceNew : CtrOK Tryz.prog 38 (con_spec_DeviceNew fun _ => g_spec_DeviceNew) := (okp_spec_DeviceNew _ _ ok_spec_MenuNew ok_spec_PumpNew).nice e_spec_DeviceNew

def lp_spec_RunDevice_3 : LP := ⟨[(0, false, [.sl 0]), (2, false, [.ptr 1 0]), (4, false, [.bool]), (5, false, [.int .i64])], [.ro (.pair (.int .i64) (.pair .str .str)) 0, .box [.int .i64, .int .i64, .int .i64, .int .i64, .int .i64, .int .i64, .int .i64, .int .i64, .sl 2, .int .i64, .int .i64, .bool, .int .i64, .int .i64, .str, .sl 3, .int .i64] 35, .row (.int .i64) 0, .row (.int .i64) 0], 1⟩
def lp_spec_RunDevice_10 : LP := ⟨[(0, false, [.sl 0]), (2, false, [.ptr 1 0]), (6, false, [.ptr 2 0]), (7, false, [.int .i64])], [.ro (.pair (.int .i64) (.pair .str .str)) 0, .box [.int .i64, .int .i64, .int .i64, .int .i64, .int .i64, .int .i64, .int .i64, .int .i64, .sl 3, .int .i64, .int .i64, .bool, .int .i64, .int .i64, .str, .sl 4, .int .i64] 35, .box [.int .i64, .int .i64, .int .i64, .int .i64, .int .i64, .int .i64, .int .i64, .int .i64, .sl 5, .int .i64, .int .i64, .bool, .int .i64, .int .i64, .str, .sl 6, .int .i64] 35, .row (.int .i64) 0, .row (.int .i64) 0, .row (.int .i64) 3, .row (.pair (.int .i64) (.pair (.int .i64) (.int .i64))) 101], 1⟩
theorem okp_spec_RunDevice (spec_DeviceNew : Nat → Unit → Option ((Int × Int × Int × Int × Int × Int × Int × Int × List Int × Int × Int × Bool × Int × Int × ByteArray × (List (Int × (Int × Int))) × Int))) (spec_InOk : Nat → (Int × ByteArray × ByteArray) → Option (Bool)) (spec_TickDevice : Nat → (Int × Int × Int × Int × Int × Int × Int × Int × List Int × Int × Int × Bool × Int × Int × ByteArray × (List (Int × (Int × Int))) × Int) × (Int × ByteArray × ByteArray) → Option ((Int × Int × Int × Int × Int × Int × Int × Int × List Int × Int × Int × Bool × Int × Int × ByteArray × (List (Int × (Int × Int))) × Int))) (h38 : CtrOK Tryz.prog 38 (con_spec_DeviceNew spec_DeviceNew)) (h37 : CtrOK Tryz.prog 37 (con_spec_InOk spec_InOk)) (h17 : CtrOK Tryz.prog 17 (con_spec_TickDevice spec_TickDevice)) : CtrOK Tryz.prog 7 (con_spec_RunDevice (spec_RunDevice_ spec_DeviceNew spec_InOk spec_TickDevice )) :=
  fun_ok (c := Tryz.f7.body.getD .skip) (con_spec_RunDevice (spec_RunDevice_ spec_DeviceNew spec_InOk spec_TickDevice )) (gOf [(38, con_spec_DeviceNew spec_DeviceNew), (37, con_spec_InOk spec_InOk), (17, con_spec_TickDevice spec_TickDevice)]) [] [⟨3, lp_spec_RunDevice_3, spec_RunDevice_L3 spec_DeviceNew spec_InOk spec_TickDevice ⟩, ⟨10, lp_spec_RunDevice_10, spec_RunDevice_L10 spec_DeviceNew spec_InOk spec_TickDevice ⟩] rfl Tryz.func7 rfl rfl rfl (gOf_cons h38 (gOf_cons h37 (gOf_cons h17 (gOf_nil)))) (by kernel_rfl) [3, 10] 1 (by kernel_rfl) (by kernel_rfl)
    (fun x => .cons (⟨3, lp_spec_RunDevice_3, spec_RunDevice_L3 spec_DeviceNew spec_InOk spec_TickDevice ⟩ : Lab (OKs [.v true [.int .i64, .int .i64, .int .i64, .int .i64, .int .i64, .int .i64, .int .i64, .int .i64, .own (.int .i64) 3, .int .i64, .int .i64, .bool, .int .i64, .int .i64, .str, .own (.pair (.int .i64) (.pair (.int .i64) (.int .i64))) 101, .int .i64], .v false [.bool]])) rfl rfl (by kernel_rfl) (by kernel_rfl) (.cons (⟨10, lp_spec_RunDevice_10, spec_RunDevice_L10 spec_DeviceNew spec_InOk spec_TickDevice ⟩ : Lab (OKs [.v true [.int .i64, .int .i64, .int .i64, .int .i64, .int .i64, .int .i64, .int .i64, .int .i64, .own (.int .i64) 3, .int .i64, .int .i64, .bool, .int .i64, .int .i64, .str, .own (.pair (.int .i64) (.pair (.int .i64) (.int .i64))) 101, .int .i64], .v false [.bool]])) rfl rfl (by kernel_rfl) (by kernel_rfl) (.nil _)))
theorem ok_spec_RunDevice : CtrOK Tryz.prog 7 (con_spec_RunDevice fun _ => g_spec_RunDevice) := (okp_spec_RunDevice _ _ _ ok_spec_DeviceNew ok_spec_InOk ok_spec_TickDevice).nice e_spec_RunDevice

theorem okp_laws_szIn : CtrOK Tryz.prog 16 (con_laws_szIn (laws_szIn_ )) :=
  fun_ok0 (c := Tryz.f16.body.getD .skip) (con_laws_szIn (laws_szIn_ )) (gOf []) rfl Tryz.func16 rfl rfl rfl (gOf_nil) (by kernel_rfl) (by kernel_rfl)
theorem ok_laws_szIn : CtrOK Tryz.prog 16 (con_laws_szIn fun _ => g_laws_szIn) := (okp_laws_szIn  ).nice e_laws_szIn

def lp_laws_szInS_5 : LP := ⟨[(0, false, [.sl 0]), (1, false, [.int .i64]), (5, false, [.int .i64])], [.ro (.pair (.int .i64) (.pair .str .str)) 0], 1⟩
theorem okp_laws_szInS (laws_szIn : Nat → (Int × ByteArray × ByteArray) × Int → Option (Int)) (h16 : CtrOK Tryz.prog 16 (con_laws_szIn laws_szIn)) : CtrOK Tryz.prog 6 (con_laws_szInS (laws_szInS_ laws_szIn )) :=
  fun_ok (c := Tryz.f6.body.getD .skip) (con_laws_szInS (laws_szInS_ laws_szIn )) (gOf [(16, con_laws_szIn laws_szIn)]) [] [⟨5, lp_laws_szInS_5, laws_szInS_L5 laws_szIn ⟩] rfl Tryz.func6 rfl rfl rfl (gOf_cons h16 (gOf_nil)) (by kernel_rfl) [5] 1 (by kernel_rfl) (by kernel_rfl)
    (fun x => .cons (⟨5, lp_laws_szInS_5, laws_szInS_L5 laws_szIn ⟩ : Lab (OKs [.v false [.int .i64]])) rfl rfl (by kernel_rfl) (by kernel_rfl) (.nil _))
theorem ok_laws_szInS : CtrOK Tryz.prog 6 (con_laws_szInS fun _ => g_laws_szInS) := (okp_laws_szInS _ ok_laws_szIn).nice e_laws_szInS

theorem okp_laws_FnExactRunDevice (impl_RunDevice : Nat → ((List (Int × (ByteArray × ByteArray)))) → Option ((Int × Int × Int × Int × Int × Int × Int × Int × List Int × Int × Int × Bool × Int × Int × ByteArray × (List (Int × (Int × Int))) × Int) × Bool)) (laws_eqDevice : Nat → (Int × Int × Int × Int × Int × Int × Int × Int × List Int × Int × Int × Bool × Int × Int × ByteArray × (List (Int × (Int × Int))) × Int) × (Int × Int × Int × Int × Int × Int × Int × Int × List Int × Int × Int × Bool × Int × Int × ByteArray × (List (Int × (Int × Int))) × Int) → Option (Bool)) (laws_eqInS : Nat → ((List (Int × (ByteArray × ByteArray)))) × ((List (Int × (ByteArray × ByteArray)))) → Option (Bool)) (laws_heldDevice : Nat → (Int × Int × Int × Int × Int × Int × Int × Int × List Int × Int × Int × Bool × Int × Int × ByteArray × (List (Int × (Int × Int))) × Int) × Int → Option (Int)) (laws_markDevice : Nat → (Int × Int × Int × Int × Int × Int × Int × Int × List Int × Int × Int × Bool × Int × Int × ByteArray × (List (Int × (Int × Int))) × Int) × Int → Option (Int × List Int × (List (Int × (Int × Int))))) (laws_markInS : Nat → ((List (Int × (ByteArray × ByteArray)))) × Int → Option (Int × (List (Int × (ByteArray × ByteArray))))) (laws_szInS : Nat → ((List (Int × (ByteArray × ByteArray)))) × Int → Option (Int)) (laws_toInS : Nat → ((List (Int × (ByteArray × ByteArray)))) → Option (((List (Int × (ByteArray × ByteArray)))))) (spec_RunDevice : Nat → ((List (Int × (ByteArray × ByteArray)))) → Option ((Int × Int × Int × Int × Int × Int × Int × Int × List Int × Int × Int × Bool × Int × Int × ByteArray × (List (Int × (Int × Int))) × Int) × Bool)) (h9 : CtrOK Tryz.prog 9 (con_impl_RunDevice impl_RunDevice)) (h10 : CtrOK Tryz.prog 10 (con_laws_eqDevice laws_eqDevice)) (h11 : CtrOK Tryz.prog 11 (con_laws_eqInS laws_eqInS)) (h14 : CtrOK Tryz.prog 14 (con_laws_heldDevice laws_heldDevice)) (h13 : CtrOK Tryz.prog 13 (con_laws_markDevice laws_markDevice)) (h12 : CtrOK Tryz.prog 12 (con_laws_markInS laws_markInS)) (h6 : CtrOK Tryz.prog 6 (con_laws_szInS laws_szInS)) (h8 : CtrOK Tryz.prog 8 (con_laws_toInS laws_toInS)) (h7 : CtrOK Tryz.prog 7 (con_spec_RunDevice spec_RunDevice)) : CtrOK Tryz.prog 3 (con_laws_FnExactRunDevice (laws_FnExactRunDevice_ impl_RunDevice laws_eqDevice laws_eqInS laws_heldDevice laws_markDevice laws_markInS laws_szInS laws_toInS spec_RunDevice )) :=
  fun_ok0 (c := Tryz.f3.body.getD .skip) (con_laws_FnExactRunDevice (laws_FnExactRunDevice_ impl_RunDevice laws_eqDevice laws_eqInS laws_heldDevice laws_markDevice laws_markInS laws_szInS laws_toInS spec_RunDevice )) (gOf [(9, con_impl_RunDevice impl_RunDevice), (10, con_laws_eqDevice laws_eqDevice), (11, con_laws_eqInS laws_eqInS), (14, con_laws_heldDevice laws_heldDevice), (13, con_laws_markDevice laws_markDevice), (12, con_laws_markInS laws_markInS), (6, con_laws_szInS laws_szInS), (8, con_laws_toInS laws_toInS), (7, con_spec_RunDevice spec_RunDevice)]) rfl Tryz.func3 rfl rfl rfl (gOf_cons h9 (gOf_cons h10 (gOf_cons h11 (gOf_cons h14 (gOf_cons h13 (gOf_cons h12 (gOf_cons h6 (gOf_cons h8 (gOf_cons h7 (gOf_nil)))))))))) (by kernel_rfl) (by kernel_rfl)
theorem ok_laws_FnExactRunDevice : CtrOK Tryz.prog 3 (con_laws_FnExactRunDevice fun _ => g_laws_FnExactRunDevice) := (okp_laws_FnExactRunDevice _ _ _ _ _ _ _ _ _ ok_impl_RunDevice ok_laws_eqDevice ok_laws_eqInS ok_laws_heldDevice ok_laws_markDevice ok_laws_markInS ok_laws_szInS ok_laws_toInS ok_spec_RunDevice).nice e_laws_FnExactRunDevice

end Go.Sx.T
