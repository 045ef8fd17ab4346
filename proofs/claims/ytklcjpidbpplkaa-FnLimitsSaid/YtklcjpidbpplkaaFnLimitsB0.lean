/- Functions of the program as functions of Lean, and that the program keeps to them. -/
import Derived.Test.YtklcjpidbpplkaaFnLimitsA0
import Derived.Test.YtklcjpidbpplkaaProg
set_option maxRecDepth 100000
set_option linter.unusedVariables false
set_option linter.unusedSimpArgs false
namespace Go.Proofs
end Go.Proofs
namespace Go.Sx.T
open Go Go.Sx Go.Proofs Go.RowKit
theorem okp_impl_bounded : CtrOK Try.prog 90 (con_impl_bounded (impl_bounded_ )) :=
  fun_ok0 (c := Try.f90.body.getD .skip) (con_impl_bounded (impl_bounded_ )) (gOf []) rfl Try.func90 rfl rfl rfl (gOf_nil) (by kernel_rfl) (by kernel_rfl)
theorem ok_impl_bounded : CtrOK Try.prog 90 (con_impl_bounded fun _ => g_impl_bounded) := (okp_impl_bounded  ).nice e_impl_bounded

theorem okp_impl_AddSat (impl_bounded : Nat → Int → Option (Int)) (h90 : CtrOK Try.prog 90 (con_impl_bounded impl_bounded)) : CtrOK Try.prog 53 (con_impl_AddSat (impl_AddSat_ impl_bounded )) :=
  fun_ok0 (c := Try.f53.body.getD .skip) (con_impl_AddSat (impl_AddSat_ impl_bounded )) (gOf [(90, con_impl_bounded impl_bounded)]) rfl Try.func53 rfl rfl rfl (gOf_cons h90 (gOf_nil)) (by kernel_rfl) (by kernel_rfl)
theorem ok_impl_AddSat : CtrOK Try.prog 53 (con_impl_AddSat fun _ => g_impl_AddSat) := (okp_impl_AddSat _ ok_impl_bounded).nice e_impl_AddSat

def lp_impl_TotalOf_3 : LP := ⟨[(3, false, [.int .i64]), (6, false, [.sl 0]), (7, false, [.int .i64]), (8, false, [.int .i64])], [.ro (.pair (.int .i64) (.pair (.int .i64) (.int .i64))) 0], 1⟩
theorem okp_impl_TotalOf (impl_AddSat : Nat → Int × Int → Option (Int)) (h53 : CtrOK Try.prog 53 (con_impl_AddSat impl_AddSat)) : CtrOK Try.prog 18 (con_impl_TotalOf (impl_TotalOf_ impl_AddSat )) :=
  fun_ok (c := Try.f18.body.getD .skip) (con_impl_TotalOf (impl_TotalOf_ impl_AddSat )) (gOf [(53, con_impl_AddSat impl_AddSat)]) [] [⟨3, lp_impl_TotalOf_3, impl_TotalOf_L3 impl_AddSat ⟩] rfl Try.func18 rfl rfl rfl (gOf_cons h53 (gOf_nil)) (by kernel_rfl) [3] 1 (by kernel_rfl) (by kernel_rfl)
    (fun x => .cons (⟨3, lp_impl_TotalOf_3, impl_TotalOf_L3 impl_AddSat ⟩ : Lab (OKs [.v false [.int .i64]])) rfl rfl (by kernel_rfl) (by kernel_rfl) (.nil _))
theorem ok_impl_TotalOf : CtrOK Try.prog 18 (con_impl_TotalOf fun _ => g_impl_TotalOf) := (okp_impl_TotalOf _ ok_impl_AddSat).nice e_impl_TotalOf

def lp_impl_WithinLimits_2 : LP := ⟨[(0, false, [.sl 0]), (8, false, [.int .i64]), (9, false, [.int .i64])], [.ro (.pair (.int .i64) (.pair (.int .i64) (.int .i64))) 0], 1⟩
def lp_impl_WithinLimits_6 : LP := ⟨[(0, false, [.sl 0]), (4, false, [.int .i64]), (8, false, [.int .i64]), (9, false, [.int .i64]), (19, false, [.sl 1]), (20, false, [.int .i64]), (21, false, [.int .i64])], [.ro (.pair (.int .i64) (.pair (.int .i64) (.int .i64))) 0, .ro (.pair (.int .i64) (.pair (.int .i64) (.int .i64))) 0], 1⟩
theorem okp_impl_WithinLimits (impl_AddSat : Nat → Int × Int → Option (Int)) (h53 : CtrOK Try.prog 53 (con_impl_AddSat impl_AddSat)) : CtrOK Try.prog 17 (con_impl_WithinLimits (impl_WithinLimits_ impl_AddSat )) :=
  fun_ok (c := Try.f17.body.getD .skip) (con_impl_WithinLimits (impl_WithinLimits_ impl_AddSat )) (gOf [(53, con_impl_AddSat impl_AddSat)]) [] [⟨2, lp_impl_WithinLimits_2, impl_WithinLimits_L2 impl_AddSat ⟩, ⟨6, lp_impl_WithinLimits_6, impl_WithinLimits_L6 impl_AddSat ⟩] rfl Try.func17 rfl rfl rfl (gOf_cons h53 (gOf_nil)) (by kernel_rfl) [2, 6] 1 (by kernel_rfl) (by kernel_rfl)
    (fun x => .cons (⟨2, lp_impl_WithinLimits_2, impl_WithinLimits_L2 impl_AddSat ⟩ : Lab (OKs [.v false [.bool]])) rfl rfl (by kernel_rfl) (by kernel_rfl) (.cons (⟨6, lp_impl_WithinLimits_6, impl_WithinLimits_L6 impl_AddSat ⟩ : Lab (OKs [.v false [.bool]])) rfl rfl (by kernel_rfl) (by kernel_rfl) (.nil _)))
theorem ok_impl_WithinLimits : CtrOK Try.prog 17 (con_impl_WithinLimits fun _ => g_impl_WithinLimits) := (okp_impl_WithinLimits _ ok_impl_AddSat).nice e_impl_WithinLimits

def lp_impl_RoomOf_3 : LP := ⟨[(3, false, [.int .i64]), (7, false, [.sl 0]), (8, false, [.int .i64]), (9, false, [.int .i64])], [.ro (.int .i64) 0], 1⟩
theorem okp_impl_RoomOf : CtrOK Try.prog 59 (con_impl_RoomOf (impl_RoomOf_ )) :=
  fun_ok (c := Try.f59.body.getD .skip) (con_impl_RoomOf (impl_RoomOf_ )) (gOf []) [] [⟨3, lp_impl_RoomOf_3, impl_RoomOf_L3 ⟩] rfl Try.func59 rfl rfl rfl (gOf_nil) (by kernel_rfl) [3] 1 (by kernel_rfl) (by kernel_rfl)
    (fun x => .cons (⟨3, lp_impl_RoomOf_3, impl_RoomOf_L3 ⟩ : Lab (OKs [.v false [.int .i64]])) rfl rfl (by kernel_rfl) (by kernel_rfl) (.nil _))
theorem ok_impl_RoomOf : CtrOK Try.prog 59 (con_impl_RoomOf fun _ => g_impl_RoomOf) := (okp_impl_RoomOf  ).nice e_impl_RoomOf

theorem okp_impl_within : CtrOK Try.prog 82 (con_impl_within (impl_within_ )) :=
  fun_ok0 (c := Try.f82.body.getD .skip) (con_impl_within (impl_within_ )) (gOf []) rfl Try.func82 rfl rfl rfl (gOf_nil) (by kernel_rfl) (by kernel_rfl)
theorem ok_impl_within : CtrOK Try.prog 82 (con_impl_within fun _ => g_impl_within) := (okp_impl_within  ).nice e_impl_within

theorem okp_impl_SenseOk (impl_within : Nat → Int × Int × Int → Option (Bool)) (h82 : CtrOK Try.prog 82 (con_impl_within impl_within)) : CtrOK Try.prog 72 (con_impl_SenseOk (impl_SenseOk_ impl_within )) :=
  fun_ok0 (c := Try.f72.body.getD .skip) (con_impl_SenseOk (impl_SenseOk_ impl_within )) (gOf [(82, con_impl_within impl_within)]) rfl Try.func72 rfl rfl rfl (gOf_cons h82 (gOf_nil)) (by kernel_rfl) (by kernel_rfl)
theorem ok_impl_SenseOk : CtrOK Try.prog 72 (con_impl_SenseOk fun _ => g_impl_SenseOk) := (okp_impl_SenseOk _ ok_impl_within).nice e_impl_SenseOk

def lp_impl_GuardOk_2 : LP := ⟨[(1, false, [.ptr 1 0]), (6, false, [.sl 0]), (7, false, [.int .i64]), (8, false, [.int .i64])], [.ro (.int .i64) 0, .box [.sl 0, .int .i64] 30], 1⟩
theorem okp_impl_GuardOk (impl_RoomOf : Nat → (List Int × Int) → Option (Int)) (impl_SenseOk : Nat → Int → Option (Bool)) (impl_within : Nat → Int × Int × Int → Option (Bool)) (h59 : CtrOK Try.prog 59 (con_impl_RoomOf impl_RoomOf)) (h72 : CtrOK Try.prog 72 (con_impl_SenseOk impl_SenseOk)) (h82 : CtrOK Try.prog 82 (con_impl_within impl_within)) : CtrOK Try.prog 46 (con_impl_GuardOk (impl_GuardOk_ impl_RoomOf impl_SenseOk impl_within )) :=
  fun_ok (c := Try.f46.body.getD .skip) (con_impl_GuardOk (impl_GuardOk_ impl_RoomOf impl_SenseOk impl_within )) (gOf [(59, con_impl_RoomOf impl_RoomOf), (72, con_impl_SenseOk impl_SenseOk), (82, con_impl_within impl_within)]) [] [⟨2, lp_impl_GuardOk_2, impl_GuardOk_L2 impl_RoomOf impl_SenseOk impl_within ⟩] rfl Try.func46 rfl rfl rfl (gOf_cons h59 (gOf_cons h72 (gOf_cons h82 (gOf_nil)))) (by kernel_rfl) [2] 1 (by kernel_rfl) (by kernel_rfl)
    (fun x => .cons (⟨2, lp_impl_GuardOk_2, impl_GuardOk_L2 impl_RoomOf impl_SenseOk impl_within ⟩ : Lab (OKs [.v false [.bool]])) rfl rfl (by kernel_rfl) (by kernel_rfl) (.nil _))
theorem ok_impl_GuardOk : CtrOK Try.prog 46 (con_impl_GuardOk fun _ => g_impl_GuardOk) := (okp_impl_GuardOk _ _ _ ok_impl_RoomOf ok_impl_SenseOk ok_impl_within).nice e_impl_GuardOk

theorem okp_impl_copyInts : CtrOK Try.prog 93 (con_impl_copyInts (impl_copyInts_ )) :=
  fun_ok0 (c := Try.f93.body.getD .skip) (con_impl_copyInts (impl_copyInts_ )) (gOf []) rfl Try.func93 rfl rfl rfl (gOf_nil) (by kernel_rfl) (by kernel_rfl)
theorem ok_impl_copyInts : CtrOK Try.prog 93 (con_impl_copyInts fun _ => g_impl_copyInts) := (okp_impl_copyInts  ).nice e_impl_copyInts

theorem okp_impl_copyGuard (impl_copyInts : Nat → List Int → Option (List Int)) (h93 : CtrOK Try.prog 93 (con_impl_copyInts impl_copyInts)) : CtrOK Try.prog 67 (con_impl_copyGuard (impl_copyGuard_ impl_copyInts )) :=
  fun_ok0 (c := Try.f67.body.getD .skip) (con_impl_copyGuard (impl_copyGuard_ impl_copyInts )) (gOf [(93, con_impl_copyInts impl_copyInts)]) rfl Try.func67 rfl rfl rfl (gOf_cons h93 (gOf_nil)) (by kernel_rfl) (by kernel_rfl)
theorem ok_impl_copyGuard : CtrOK Try.prog 67 (con_impl_copyGuard fun _ => g_impl_copyGuard) := (okp_impl_copyGuard _ ok_impl_copyInts).nice e_impl_copyGuard

theorem okp_impl_Pass (impl_GuardOk : Nat → (List Int × Int) → Option (Bool)) (impl_RoomOf : Nat → (List Int × Int) → Option (Int)) (impl_copyGuard : Nat → (List Int × Int) → Option ((List Int × Int))) (h46 : CtrOK Try.prog 46 (con_impl_GuardOk impl_GuardOk)) (h59 : CtrOK Try.prog 59 (con_impl_RoomOf impl_RoomOf)) (h67 : CtrOK Try.prog 67 (con_impl_copyGuard impl_copyGuard)) : CtrOK Try.prog 30 (con_impl_Pass (impl_Pass_ impl_GuardOk impl_RoomOf impl_copyGuard )) :=
  fun_ok0 (c := Try.f30.body.getD .skip) (con_impl_Pass (impl_Pass_ impl_GuardOk impl_RoomOf impl_copyGuard )) (gOf [(46, con_impl_GuardOk impl_GuardOk), (59, con_impl_RoomOf impl_RoomOf), (67, con_impl_copyGuard impl_copyGuard)]) rfl Try.func30 rfl rfl rfl (gOf_cons h46 (gOf_cons h59 (gOf_cons h67 (gOf_nil)))) (by kernel_rfl) (by kernel_rfl)
theorem ok_impl_Pass : CtrOK Try.prog 30 (con_impl_Pass fun _ => g_impl_Pass) := (okp_impl_Pass _ _ _ ok_impl_GuardOk ok_impl_RoomOf ok_impl_copyGuard).nice e_impl_Pass

theorem okp_impl_RateOk (impl_within : Nat → Int × Int × Int → Option (Bool)) (h82 : CtrOK Try.prog 82 (con_impl_within impl_within)) : CtrOK Try.prog 92 (con_impl_RateOk (impl_RateOk_ impl_within )) :=
  fun_ok0 (c := Try.f92.body.getD .skip) (con_impl_RateOk (impl_RateOk_ impl_within )) (gOf [(82, con_impl_within impl_within)]) rfl Try.func92 rfl rfl rfl (gOf_cons h82 (gOf_nil)) (by kernel_rfl) (by kernel_rfl)
theorem ok_impl_RateOk : CtrOK Try.prog 92 (con_impl_RateOk fun _ => g_impl_RateOk) := (okp_impl_RateOk _ ok_impl_within).nice e_impl_RateOk

theorem okp_impl_StepRate (impl_RateOk : Nat → (Int × Int × Int) → Option (Bool)) (h92 : CtrOK Try.prog 92 (con_impl_RateOk impl_RateOk)) : CtrOK Try.prog 65 (con_impl_StepRate (impl_StepRate_ impl_RateOk )) :=
  fun_ok0 (c := Try.f65.body.getD .skip) (con_impl_StepRate (impl_StepRate_ impl_RateOk )) (gOf [(92, con_impl_RateOk impl_RateOk)]) rfl Try.func65 rfl rfl rfl (gOf_cons h92 (gOf_nil)) (by kernel_rfl) (by kernel_rfl)
theorem ok_impl_StepRate : CtrOK Try.prog 65 (con_impl_StepRate fun _ => g_impl_StepRate) := (okp_impl_StepRate _ ok_impl_RateOk).nice e_impl_StepRate

theorem okp_impl_PumpOk (impl_RateOk : Nat → (Int × Int × Int) → Option (Bool)) (impl_within : Nat → Int × Int × Int → Option (Bool)) (h92 : CtrOK Try.prog 92 (con_impl_RateOk impl_RateOk)) (h82 : CtrOK Try.prog 82 (con_impl_within impl_within)) : CtrOK Try.prog 63 (con_impl_PumpOk (impl_PumpOk_ impl_RateOk impl_within )) :=
  fun_ok0 (c := Try.f63.body.getD .skip) (con_impl_PumpOk (impl_PumpOk_ impl_RateOk impl_within )) (gOf [(92, con_impl_RateOk impl_RateOk), (82, con_impl_within impl_within)]) rfl Try.func63 rfl rfl rfl (gOf_cons h92 (gOf_cons h82 (gOf_nil))) (by kernel_rfl) (by kernel_rfl)
theorem ok_impl_PumpOk : CtrOK Try.prog 63 (con_impl_PumpOk fun _ => g_impl_PumpOk) := (okp_impl_PumpOk _ _ ok_impl_RateOk ok_impl_within).nice e_impl_PumpOk

theorem okp_impl_Wants (impl_PumpOk : Nat → (Int × Int × Int × Int × Int × Int × Int × Int) → Option (Bool)) (impl_StepRate : Nat → (Int × Int × Int) → Option ((Int × Int × Int) × Int)) (h63 : CtrOK Try.prog 63 (con_impl_PumpOk impl_PumpOk)) (h65 : CtrOK Try.prog 65 (con_impl_StepRate impl_StepRate)) : CtrOK Try.prog 28 (con_impl_Wants (impl_Wants_ impl_PumpOk impl_StepRate )) :=
  fun_ok0 (c := Try.f28.body.getD .skip) (con_impl_Wants (impl_Wants_ impl_PumpOk impl_StepRate )) (gOf [(63, con_impl_PumpOk impl_PumpOk), (65, con_impl_StepRate impl_StepRate)]) rfl Try.func28 rfl rfl rfl (gOf_cons h63 (gOf_cons h65 (gOf_nil))) (by kernel_rfl) (by kernel_rfl)
theorem ok_impl_Wants : CtrOK Try.prog 28 (con_impl_Wants fun _ => g_impl_Wants) := (okp_impl_Wants _ _ ok_impl_PumpOk ok_impl_StepRate).nice e_impl_Wants

theorem okp_impl_Give (impl_PumpOk : Nat → (Int × Int × Int × Int × Int × Int × Int × Int) → Option (Bool)) (impl_StepRate : Nat → (Int × Int × Int) → Option ((Int × Int × Int) × Int)) (impl_Wants : Nat → (Int × Int × Int × Int × Int × Int × Int × Int) → Option (Int)) (h63 : CtrOK Try.prog 63 (con_impl_PumpOk impl_PumpOk)) (h65 : CtrOK Try.prog 65 (con_impl_StepRate impl_StepRate)) (h28 : CtrOK Try.prog 28 (con_impl_Wants impl_Wants)) : CtrOK Try.prog 27 (con_impl_Give (impl_Give_ impl_PumpOk impl_StepRate impl_Wants )) :=
  fun_ok0 (c := Try.f27.body.getD .skip) (con_impl_Give (impl_Give_ impl_PumpOk impl_StepRate impl_Wants )) (gOf [(63, con_impl_PumpOk impl_PumpOk), (65, con_impl_StepRate impl_StepRate), (28, con_impl_Wants impl_Wants)]) rfl Try.func27 rfl rfl rfl (gOf_cons h63 (gOf_cons h65 (gOf_cons h28 (gOf_nil)))) (by kernel_rfl) (by kernel_rfl)
theorem ok_impl_Give : CtrOK Try.prog 27 (con_impl_Give fun _ => g_impl_Give) := (okp_impl_Give _ _ _ ok_impl_PumpOk ok_impl_StepRate ok_impl_Wants).nice e_impl_Give

theorem okp_impl_Allow (impl_GuardOk : Nat → (List Int × Int) → Option (Bool)) (impl_RoomOf : Nat → (List Int × Int) → Option (Int)) (h46 : CtrOK Try.prog 46 (con_impl_GuardOk impl_GuardOk)) (h59 : CtrOK Try.prog 59 (con_impl_RoomOf impl_RoomOf)) : CtrOK Try.prog 22 (con_impl_Allow (impl_Allow_ impl_GuardOk impl_RoomOf )) :=
  fun_ok0 (c := Try.f22.body.getD .skip) (con_impl_Allow (impl_Allow_ impl_GuardOk impl_RoomOf )) (gOf [(46, con_impl_GuardOk impl_GuardOk), (59, con_impl_RoomOf impl_RoomOf)]) rfl Try.func22 rfl rfl rfl (gOf_cons h46 (gOf_cons h59 (gOf_nil))) (by kernel_rfl) (by kernel_rfl)
theorem ok_impl_Allow : CtrOK Try.prog 22 (con_impl_Allow fun _ => g_impl_Allow) := (okp_impl_Allow _ _ ok_impl_GuardOk ok_impl_RoomOf).nice e_impl_Allow

theorem okp_impl_Feel (impl_GuardOk : Nat → (List Int × Int) → Option (Bool)) (impl_SenseOk : Nat → Int → Option (Bool)) (impl_copyGuard : Nat → (List Int × Int) → Option ((List Int × Int))) (h46 : CtrOK Try.prog 46 (con_impl_GuardOk impl_GuardOk)) (h72 : CtrOK Try.prog 72 (con_impl_SenseOk impl_SenseOk)) (h67 : CtrOK Try.prog 67 (con_impl_copyGuard impl_copyGuard)) : CtrOK Try.prog 34 (con_impl_Feel (impl_Feel_ impl_GuardOk impl_SenseOk impl_copyGuard )) :=
  fun_ok0 (c := Try.f34.body.getD .skip) (con_impl_Feel (impl_Feel_ impl_GuardOk impl_SenseOk impl_copyGuard )) (gOf [(46, con_impl_GuardOk impl_GuardOk), (72, con_impl_SenseOk impl_SenseOk), (67, con_impl_copyGuard impl_copyGuard)]) rfl Try.func34 rfl rfl rfl (gOf_cons h46 (gOf_cons h72 (gOf_cons h67 (gOf_nil)))) (by kernel_rfl) (by kernel_rfl)
theorem ok_impl_Feel : CtrOK Try.prog 34 (con_impl_Feel fun _ => g_impl_Feel) := (okp_impl_Feel _ _ _ ok_impl_GuardOk ok_impl_SenseOk ok_impl_copyGuard).nice e_impl_Feel

def lp_impl_isSeen_2 : LP := ⟨[(5, false, [.sl 0]), (6, false, [.int .i64]), (7, false, [.int .i64])], [.ro (.pair (.int .i64) (.pair (.int .i64) (.pair (.int .i64) (.int .i64)))) 0], 1⟩
theorem okp_impl_isSeen : CtrOK Try.prog 88 (con_impl_isSeen (impl_isSeen_ )) :=
  fun_ok (c := Try.f88.body.getD .skip) (con_impl_isSeen (impl_isSeen_ )) (gOf []) [] [⟨2, lp_impl_isSeen_2, impl_isSeen_L2 ⟩] rfl Try.func88 rfl rfl rfl (gOf_nil) (by kernel_rfl) [2] 1 (by kernel_rfl) (by kernel_rfl)
    (fun x => .cons (⟨2, lp_impl_isSeen_2, impl_isSeen_L2 ⟩ : Lab (OKs [.v false [.bool]])) rfl rfl (by kernel_rfl) (by kernel_rfl) (.nil _))
theorem ok_impl_isSeen : CtrOK Try.prog 88 (con_impl_isSeen fun _ => g_impl_isSeen) := (okp_impl_isSeen  ).nice e_impl_isSeen

theorem okp_impl_OrderOk (impl_within : Nat → Int × Int × Int → Option (Bool)) (h82 : CtrOK Try.prog 82 (con_impl_within impl_within)) : CtrOK Try.prog 64 (con_impl_OrderOk (impl_OrderOk_ impl_within )) :=
  fun_ok0 (c := Try.f64.body.getD .skip) (con_impl_OrderOk (impl_OrderOk_ impl_within )) (gOf [(82, con_impl_within impl_within)]) rfl Try.func64 rfl rfl rfl (gOf_cons h82 (gOf_nil)) (by kernel_rfl) (by kernel_rfl)
theorem ok_impl_OrderOk : CtrOK Try.prog 64 (con_impl_OrderOk fun _ => g_impl_OrderOk) := (okp_impl_OrderOk _ ok_impl_within).nice e_impl_OrderOk

def lp_impl_ReadVar_5 : LP := ⟨[(0, false, [.str]), (1, false, [.int .i64]), (7, false, [.int .i64]), (8, false, [.int .i64])], [], 0⟩
theorem okp_impl_ReadVar (impl_within : Nat → Int × Int × Int → Option (Bool)) (h82 : CtrOK Try.prog 82 (con_impl_within impl_within)) : CtrOK Try.prog 109 (con_impl_ReadVar (impl_ReadVar_ impl_within )) :=
  fun_ok (c := Try.f109.body.getD .skip) (con_impl_ReadVar (impl_ReadVar_ impl_within )) (gOf [(82, con_impl_within impl_within)]) [] [⟨5, lp_impl_ReadVar_5, impl_ReadVar_L5 impl_within ⟩] rfl Try.func109 rfl rfl rfl (gOf_cons h82 (gOf_nil)) (by kernel_rfl) [5] 0 (by kernel_rfl) (by kernel_rfl)
    (fun x => .cons (⟨5, lp_impl_ReadVar_5, impl_ReadVar_L5 impl_within ⟩ : Lab (OKs [.v false [.int .i64], .v false [.int .i64], .v false [.bool]])) rfl rfl (by kernel_rfl) (by kernel_rfl) (.nil _))
theorem ok_impl_ReadVar : CtrOK Try.prog 109 (con_impl_ReadVar fun _ => g_impl_ReadVar) := (okp_impl_ReadVar _ ok_impl_within).nice e_impl_ReadVar

theorem okp_impl_reader__number (impl_ReadVar : Nat → ByteArray × Int → Option (Int × Int × Bool)) (h109 : CtrOK Try.prog 109 (con_impl_ReadVar impl_ReadVar)) : CtrOK Try.prog 101 (con_impl_reader__number (impl_reader__number_ impl_ReadVar )) :=
  fun_ok0 (c := Try.f101.body.getD .skip) (con_impl_reader__number (impl_reader__number_ impl_ReadVar )) (gOf [(109, con_impl_ReadVar impl_ReadVar)]) rfl Try.func101 rfl rfl rfl (gOf_cons h109 (gOf_nil)) (by kernel_rfl) (by kernel_rfl)
theorem ok_impl_reader__number : CtrOK Try.prog 101 (con_impl_reader__number fun _ => g_impl_reader__number) := (okp_impl_reader__number _ ok_impl_ReadVar).nice e_impl_reader__number

def lp_impl_highFirst_3 : LP := ⟨[(0, false, [.int .i64]), (5, false, [.sl 0]), (6, false, [.int .i64])], [.row (.int .u8) 5], 0⟩
theorem okp_impl_highFirst : CtrOK Try.prog 114 (con_impl_highFirst (impl_highFirst_ )) :=
  fun_ok (c := Try.f114.body.getD .skip) (con_impl_highFirst (impl_highFirst_ )) (gOf []) [] [⟨3, lp_impl_highFirst_3, impl_highFirst_L3 ⟩] rfl Try.func114 rfl rfl rfl (gOf_nil) (by kernel_rfl) [3] 0 (by kernel_rfl) (by kernel_rfl)
    (fun x => .cons (⟨3, lp_impl_highFirst_3, impl_highFirst_L3 ⟩ : Lab (OKs [.v false [.str]])) rfl rfl (by kernel_rfl) (by kernel_rfl) (.nil _))
theorem ok_impl_highFirst : CtrOK Try.prog 114 (con_impl_highFirst fun _ => g_impl_highFirst) := (okp_impl_highFirst  ).nice e_impl_highFirst

def lp_impl_SumMore_2 : LP := ⟨[(0, false, [.int .u32]), (1, false, [.str]), (5, false, [.int .i64])], [], 0⟩
def lp_impl_SumMore_6 : LP := ⟨[(0, false, [.int .u32]), (1, false, [.str]), (5, false, [.int .i64]), (19, false, [.int .i64])], [], 0⟩
theorem okp_impl_SumMore : CtrOK Try.prog 118 (con_impl_SumMore (impl_SumMore_ )) :=
  fun_ok (c := Try.f118.body.getD .skip) (con_impl_SumMore (impl_SumMore_ )) (gOf []) [] [⟨2, lp_impl_SumMore_2, impl_SumMore_L2 ⟩, ⟨6, lp_impl_SumMore_6, impl_SumMore_L6 ⟩] rfl Try.func118 rfl rfl rfl (gOf_nil) (by kernel_rfl) [2, 6] 0 (by kernel_rfl) (by kernel_rfl)
    (fun x => .cons (⟨2, lp_impl_SumMore_2, impl_SumMore_L2 ⟩ : Lab (OKs [.v false [.int .u32]])) rfl rfl (by kernel_rfl) (by kernel_rfl) (.cons (⟨6, lp_impl_SumMore_6, impl_SumMore_L6 ⟩ : Lab (OKs [.v false [.int .u32]])) rfl rfl (by kernel_rfl) (by kernel_rfl) (.nil _)))
theorem ok_impl_SumMore : CtrOK Try.prog 118 (con_impl_SumMore fun _ => g_impl_SumMore) := (okp_impl_SumMore  ).nice e_impl_SumMore

theorem okp_impl_SumOf (impl_SumMore : Nat → Int × ByteArray → Option (Int)) (h118 : CtrOK Try.prog 118 (con_impl_SumMore impl_SumMore)) : CtrOK Try.prog 115 (con_impl_SumOf (impl_SumOf_ impl_SumMore )) :=
  fun_ok0 (c := Try.f115.body.getD .skip) (con_impl_SumOf (impl_SumOf_ impl_SumMore )) (gOf [(118, con_impl_SumMore impl_SumMore)]) rfl Try.func115 rfl rfl rfl (gOf_cons h118 (gOf_nil)) (by kernel_rfl) (by kernel_rfl)
theorem ok_impl_SumOf : CtrOK Try.prog 115 (con_impl_SumOf fun _ => g_impl_SumOf) := (okp_impl_SumOf _ ok_impl_SumMore).nice e_impl_SumOf

theorem okp_impl_Sealed (impl_SumOf : Nat → ByteArray → Option (Int)) (impl_highFirst : Nat → Int × Int → Option (ByteArray)) (h115 : CtrOK Try.prog 115 (con_impl_SumOf impl_SumOf)) (h114 : CtrOK Try.prog 114 (con_impl_highFirst impl_highFirst)) : CtrOK Try.prog 108 (con_impl_Sealed (impl_Sealed_ impl_SumOf impl_highFirst )) :=
  fun_ok0 (c := Try.f108.body.getD .skip) (con_impl_Sealed (impl_Sealed_ impl_SumOf impl_highFirst )) (gOf [(115, con_impl_SumOf impl_SumOf), (114, con_impl_highFirst impl_highFirst)]) rfl Try.func108 rfl rfl rfl (gOf_cons h115 (gOf_cons h114 (gOf_nil))) (by kernel_rfl) (by kernel_rfl)
theorem ok_impl_Sealed : CtrOK Try.prog 108 (con_impl_Sealed fun _ => g_impl_Sealed) := (okp_impl_Sealed _ _ ok_impl_SumOf ok_impl_highFirst).nice e_impl_Sealed

theorem okp_impl_Unsealed (impl_Sealed : Nat → ByteArray → Option (ByteArray × Bool)) (h108 : CtrOK Try.prog 108 (con_impl_Sealed impl_Sealed)) : CtrOK Try.prog 100 (con_impl_Unsealed (impl_Unsealed_ impl_Sealed )) :=
  fun_ok0 (c := Try.f100.body.getD .skip) (con_impl_Unsealed (impl_Unsealed_ impl_Sealed )) (gOf [(108, con_impl_Sealed impl_Sealed)]) rfl Try.func100 rfl rfl rfl (gOf_cons h108 (gOf_nil)) (by kernel_rfl) (by kernel_rfl)
theorem ok_impl_Unsealed : CtrOK Try.prog 100 (con_impl_Unsealed fun _ => g_impl_Unsealed) := (okp_impl_Unsealed _ ok_impl_Sealed).nice e_impl_Unsealed

theorem okp_impl_ReadOrder (impl_OrderOk : Nat → (Int × Int × Int × Int) → Option (Bool)) (impl_Unsealed : Nat → ByteArray → Option (ByteArray × Bool)) (impl_reader__number : Nat → (ByteArray × Int × Bool) → Option (Int × (ByteArray × Int × Bool))) (h64 : CtrOK Try.prog 64 (con_impl_OrderOk impl_OrderOk)) (h100 : CtrOK Try.prog 100 (con_impl_Unsealed impl_Unsealed)) (h101 : CtrOK Try.prog 101 (con_impl_reader__number impl_reader__number)) : CtrOK Try.prog 87 (con_impl_ReadOrder (impl_ReadOrder_ impl_OrderOk impl_Unsealed impl_reader__number )) :=
  fun_ok0 (c := Try.f87.body.getD .skip) (con_impl_ReadOrder (impl_ReadOrder_ impl_OrderOk impl_Unsealed impl_reader__number )) (gOf [(64, con_impl_OrderOk impl_OrderOk), (100, con_impl_Unsealed impl_Unsealed), (101, con_impl_reader__number impl_reader__number)]) rfl Try.func87 rfl rfl rfl (gOf_cons h64 (gOf_cons h100 (gOf_cons h101 (gOf_nil)))) (by kernel_rfl) (by kernel_rfl)
theorem ok_impl_ReadOrder : CtrOK Try.prog 87 (con_impl_ReadOrder fun _ => g_impl_ReadOrder) := (okp_impl_ReadOrder _ _ _ ok_impl_OrderOk ok_impl_Unsealed ok_impl_reader__number).nice e_impl_ReadOrder

theorem okp_impl_Take (impl_OrderOk : Nat → (Int × Int × Int × Int) → Option (Bool)) (impl_PumpOk : Nat → (Int × Int × Int × Int × Int × Int × Int × Int) → Option (Bool)) (h64 : CtrOK Try.prog 64 (con_impl_OrderOk impl_OrderOk)) (h63 : CtrOK Try.prog 63 (con_impl_PumpOk impl_PumpOk)) : CtrOK Try.prog 25 (con_impl_Take (impl_Take_ impl_OrderOk impl_PumpOk )) :=
  fun_ok0 (c := Try.f25.body.getD .skip) (con_impl_Take (impl_Take_ impl_OrderOk impl_PumpOk )) (gOf [(64, con_impl_OrderOk impl_OrderOk), (63, con_impl_PumpOk impl_PumpOk)]) rfl Try.func25 rfl rfl rfl (gOf_cons h64 (gOf_cons h63 (gOf_nil))) (by kernel_rfl) (by kernel_rfl)
theorem ok_impl_Take : CtrOK Try.prog 25 (con_impl_Take fun _ => g_impl_Take) := (okp_impl_Take _ _ ok_impl_OrderOk ok_impl_PumpOk).nice e_impl_Take

theorem okp_impl_Device__order (impl_Take : Nat → (Int × Int × Int × Int × Int × Int × Int × Int) × (Int × Int × Int × Int) → Option ((Int × Int × Int × Int × Int × Int × Int × Int) × Bool)) (h25 : CtrOK Try.prog 25 (con_impl_Take impl_Take)) : CtrOK Try.prog 86 (con_impl_Device__order (impl_Device__order_ impl_Take )) :=
  fun_ok0 (c := Try.f86.body.getD .skip) (con_impl_Device__order (impl_Device__order_ impl_Take )) (gOf [(25, con_impl_Take impl_Take)]) rfl Try.func86 rfl rfl rfl (gOf_cons h25 (gOf_nil)) (by kernel_rfl) (by kernel_rfl)
theorem ok_impl_Device__order : CtrOK Try.prog 86 (con_impl_Device__order fun _ => g_impl_Device__order) := (okp_impl_Device__order _ ok_impl_Take).nice e_impl_Device__order

theorem okp_impl_MenuNew : CtrOK Try.prog 40 (con_impl_MenuNew (impl_MenuNew_ )) :=
  fun_ok0 (c := Try.f40.body.getD .skip) (con_impl_MenuNew (impl_MenuNew_ )) (gOf []) rfl Try.func40 rfl rfl rfl (gOf_nil) (by kernel_rfl) (by kernel_rfl)
theorem ok_impl_MenuNew : CtrOK Try.prog 40 (con_impl_MenuNew fun _ => g_impl_MenuNew) := (okp_impl_MenuNew  ).nice e_impl_MenuNew

def lp_impl_typed_3 : LP := ⟨[(0, false, [.str]), (3, false, [.int .i64]), (6, false, [.int .i64]), (7, false, [.int .i64])], [], 0⟩
theorem okp_impl_typed : CtrOK Try.prog 107 (con_impl_typed (impl_typed_ )) :=
  fun_ok (c := Try.f107.body.getD .skip) (con_impl_typed (impl_typed_ )) (gOf []) [] [⟨3, lp_impl_typed_3, impl_typed_L3 ⟩] rfl Try.func107 rfl rfl rfl (gOf_nil) (by kernel_rfl) [3] 0 (by kernel_rfl) (by kernel_rfl)
    (fun x => .cons (⟨3, lp_impl_typed_3, impl_typed_L3 ⟩ : Lab (OKs [.v false [.int .i64]])) rfl rfl (by kernel_rfl) (by kernel_rfl) (.nil _))
theorem ok_impl_typed : CtrOK Try.prog 107 (con_impl_typed fun _ => g_impl_typed) := (okp_impl_typed  ).nice e_impl_typed

theorem okp_impl_Menu__enter (impl_MenuNew : Nat → Unit → Option ((Int × Bool × Int × Int × ByteArray))) (impl_OrderOk : Nat → (Int × Int × Int × Int) → Option (Bool)) (impl_typed : Nat → ByteArray → Option (Int)) (h40 : CtrOK Try.prog 40 (con_impl_MenuNew impl_MenuNew)) (h64 : CtrOK Try.prog 64 (con_impl_OrderOk impl_OrderOk)) (h107 : CtrOK Try.prog 107 (con_impl_typed impl_typed)) : CtrOK Try.prog 97 (con_impl_Menu__enter (impl_Menu__enter_ impl_MenuNew impl_OrderOk impl_typed )) :=
  fun_ok0 (c := Try.f97.body.getD .skip) (con_impl_Menu__enter (impl_Menu__enter_ impl_MenuNew impl_OrderOk impl_typed )) (gOf [(40, con_impl_MenuNew impl_MenuNew), (64, con_impl_OrderOk impl_OrderOk), (107, con_impl_typed impl_typed)]) rfl Try.func97 rfl rfl rfl (gOf_cons h40 (gOf_cons h64 (gOf_cons h107 (gOf_nil)))) (by kernel_rfl) (by kernel_rfl)
theorem ok_impl_Menu__enter : CtrOK Try.prog 97 (con_impl_Menu__enter fun _ => g_impl_Menu__enter) := (okp_impl_Menu__enter _ _ _ ok_impl_MenuNew ok_impl_OrderOk ok_impl_typed).nice e_impl_Menu__enter

theorem okp_impl_Menu__top : CtrOK Try.prog 96 (con_impl_Menu__top (impl_Menu__top_ )) :=
  fun_ok0 (c := Try.f96.body.getD .skip) (con_impl_Menu__top (impl_Menu__top_ )) (gOf []) rfl Try.func96 rfl rfl rfl (gOf_nil) (by kernel_rfl) (by kernel_rfl)
theorem ok_impl_Menu__top : CtrOK Try.prog 96 (con_impl_Menu__top fun _ => g_impl_Menu__top) := (okp_impl_Menu__top  ).nice e_impl_Menu__top

def lp_impl_MenuOk_2 : LP := ⟨[(1, false, [.ptr 0 0]), (6, false, [.int .i64]), (7, false, [.int .i64])], [.box [.int .i64, .bool, .int .i64, .int .i64, .str] 32], 0⟩
theorem okp_impl_MenuOk (impl_MenuNew : Nat → Unit → Option ((Int × Bool × Int × Int × ByteArray))) (impl_within : Nat → Int × Int × Int → Option (Bool)) (h40 : CtrOK Try.prog 40 (con_impl_MenuNew impl_MenuNew)) (h82 : CtrOK Try.prog 82 (con_impl_within impl_within)) : CtrOK Try.prog 95 (con_impl_MenuOk (impl_MenuOk_ impl_MenuNew impl_within )) :=
  fun_ok (c := Try.f95.body.getD .skip) (con_impl_MenuOk (impl_MenuOk_ impl_MenuNew impl_within )) (gOf [(40, con_impl_MenuNew impl_MenuNew), (82, con_impl_within impl_within)]) [] [⟨2, lp_impl_MenuOk_2, impl_MenuOk_L2 impl_MenuNew impl_within ⟩] rfl Try.func95 rfl rfl rfl (gOf_cons h40 (gOf_cons h82 (gOf_nil))) (by kernel_rfl) [2] 0 (by kernel_rfl) (by kernel_rfl)
    (fun x => .cons (⟨2, lp_impl_MenuOk_2, impl_MenuOk_L2 impl_MenuNew impl_within ⟩ : Lab (OKs [.v false [.bool]])) rfl rfl (by kernel_rfl) (by kernel_rfl) (.nil _))
theorem ok_impl_MenuOk : CtrOK Try.prog 95 (con_impl_MenuOk fun _ => g_impl_MenuOk) := (okp_impl_MenuOk _ _ ok_impl_MenuNew ok_impl_within).nice e_impl_MenuOk

theorem okp_impl_Press (impl_MenuNew : Nat → Unit → Option ((Int × Bool × Int × Int × ByteArray))) (impl_MenuOk : Nat → (Int × Bool × Int × Int × ByteArray) → Option (Bool)) (impl_Menu__enter : Nat → (Int × Bool × Int × Int × ByteArray) → Option ((Int × Bool × Int × Int × ByteArray) × (Int × Int × Int × Int) × Bool)) (impl_Menu__top : Nat → (Int × Bool × Int × Int × ByteArray) × Int → Option ((Int × Bool × Int × Int × ByteArray) × (Int × Int × Int × Int) × Bool)) (impl_within : Nat → Int × Int × Int → Option (Bool)) (h40 : CtrOK Try.prog 40 (con_impl_MenuNew impl_MenuNew)) (h95 : CtrOK Try.prog 95 (con_impl_MenuOk impl_MenuOk)) (h97 : CtrOK Try.prog 97 (con_impl_Menu__enter impl_Menu__enter)) (h96 : CtrOK Try.prog 96 (con_impl_Menu__top impl_Menu__top)) (h82 : CtrOK Try.prog 82 (con_impl_within impl_within)) : CtrOK Try.prog 79 (con_impl_Press (impl_Press_ impl_MenuNew impl_MenuOk impl_Menu__enter impl_Menu__top impl_within )) :=
  fun_ok0 (c := Try.f79.body.getD .skip) (con_impl_Press (impl_Press_ impl_MenuNew impl_MenuOk impl_Menu__enter impl_Menu__top impl_within )) (gOf [(40, con_impl_MenuNew impl_MenuNew), (95, con_impl_MenuOk impl_MenuOk), (97, con_impl_Menu__enter impl_Menu__enter), (96, con_impl_Menu__top impl_Menu__top), (82, con_impl_within impl_within)]) rfl Try.func79 rfl rfl rfl (gOf_cons h40 (gOf_cons h95 (gOf_cons h97 (gOf_cons h96 (gOf_cons h82 (gOf_nil)))))) (by kernel_rfl) (by kernel_rfl)
theorem ok_impl_Press : CtrOK Try.prog 79 (con_impl_Press fun _ => g_impl_Press) := (okp_impl_Press _ _ _ _ _ ok_impl_MenuNew ok_impl_MenuOk ok_impl_Menu__enter ok_impl_Menu__top ok_impl_within).nice e_impl_Press

def lp_impl_PressAll_3 : LP := ⟨[(1, false, [.str]), (2, false, [.ptr 0 0]), (4, false, [.ptr 1 0]), (6, false, [.sl 2]), (13, false, [.int .i64]), (14, false, [.int .i64])], [.box [.int .i64, .bool, .int .i64, .int .i64, .str] 32, .box [.int .i64, .bool, .int .i64, .int .i64, .str] 32, .row (.pair (.int .i64) (.pair (.int .i64) (.pair (.int .i64) (.int .i64)))) 55], 0⟩
theorem okp_impl_PressAll (impl_Press : Nat → (Int × Bool × Int × Int × ByteArray) × Int → Option ((Int × Bool × Int × Int × ByteArray) × (Int × Int × Int × Int) × Bool)) (h79 : CtrOK Try.prog 79 (con_impl_Press impl_Press)) : CtrOK Try.prog 39 (con_impl_PressAll (impl_PressAll_ impl_Press )) :=
  fun_ok (c := Try.f39.body.getD .skip) (con_impl_PressAll (impl_PressAll_ impl_Press )) (gOf [(79, con_impl_Press impl_Press)]) [] [⟨3, lp_impl_PressAll_3, impl_PressAll_L3 impl_Press ⟩] rfl Try.func39 rfl rfl rfl (gOf_cons h79 (gOf_nil)) (by kernel_rfl) [3] 0 (by kernel_rfl) (by kernel_rfl)
    (fun x => .cons (⟨3, lp_impl_PressAll_3, impl_PressAll_L3 impl_Press ⟩ : Lab (OKs [.v true [.int .i64, .bool, .int .i64, .int .i64, .str], .v false [.own (.pair (.int .i64) (.pair (.int .i64) (.pair (.int .i64) (.int .i64)))) 55]])) rfl rfl (by kernel_rfl) (by kernel_rfl) (.nil _))
theorem ok_impl_PressAll : CtrOK Try.prog 39 (con_impl_PressAll fun _ => g_impl_PressAll) := (okp_impl_PressAll _ ok_impl_Press).nice e_impl_PressAll

theorem okp_impl_ordersOf (impl_PressAll : Nat → (Int × Bool × Int × Int × ByteArray) × ByteArray → Option ((Int × Bool × Int × Int × ByteArray) × ((List (Int × (Int × (Int × Int))))))) (impl_ReadOrder : Nat → ByteArray → Option ((Int × Int × Int × Int) × Bool)) (h39 : CtrOK Try.prog 39 (con_impl_PressAll impl_PressAll)) (h87 : CtrOK Try.prog 87 (con_impl_ReadOrder impl_ReadOrder)) : CtrOK Try.prog 85 (con_impl_ordersOf (impl_ordersOf_ impl_PressAll impl_ReadOrder )) :=
  fun_ok0 (c := Try.f85.body.getD .skip) (con_impl_ordersOf (impl_ordersOf_ impl_PressAll impl_ReadOrder )) (gOf [(39, con_impl_PressAll impl_PressAll), (87, con_impl_ReadOrder impl_ReadOrder)]) rfl Try.func85 rfl rfl rfl (gOf_cons h39 (gOf_cons h87 (gOf_nil))) (by kernel_rfl) (by kernel_rfl)
theorem ok_impl_ordersOf : CtrOK Try.prog 85 (con_impl_ordersOf fun _ => g_impl_ordersOf) := (okp_impl_ordersOf _ _ ok_impl_PressAll ok_impl_ReadOrder).nice e_impl_ordersOf

theorem okp_impl_InOk (impl_SenseOk : Nat → Int → Option (Bool)) (h72 : CtrOK Try.prog 72 (con_impl_SenseOk impl_SenseOk)) : CtrOK Try.prog 48 (con_impl_InOk (impl_InOk_ impl_SenseOk )) :=
  fun_ok0 (c := Try.f48.body.getD .skip) (con_impl_InOk (impl_InOk_ impl_SenseOk )) (gOf [(72, con_impl_SenseOk impl_SenseOk)]) rfl Try.func48 rfl rfl rfl (gOf_cons h72 (gOf_nil)) (by kernel_rfl) (by kernel_rfl)
theorem ok_impl_InOk : CtrOK Try.prog 48 (con_impl_InOk fun _ => g_impl_InOk) := (okp_impl_InOk _ ok_impl_SenseOk).nice e_impl_InOk

theorem okp_impl_isNumber (impl_within : Nat → Int × Int × Int → Option (Bool)) (h82 : CtrOK Try.prog 82 (con_impl_within impl_within)) : CtrOK Try.prog 99 (con_impl_isNumber (impl_isNumber_ impl_within )) :=
  fun_ok0 (c := Try.f99.body.getD .skip) (con_impl_isNumber (impl_isNumber_ impl_within )) (gOf [(82, con_impl_within impl_within)]) rfl Try.func99 rfl rfl rfl (gOf_cons h82 (gOf_nil)) (by kernel_rfl) (by kernel_rfl)
theorem ok_impl_isNumber : CtrOK Try.prog 99 (con_impl_isNumber fun _ => g_impl_isNumber) := (okp_impl_isNumber _ ok_impl_within).nice e_impl_isNumber

theorem okp_impl_DeviceOk (impl_GuardOk : Nat → (List Int × Int) → Option (Bool)) (impl_MenuOk : Nat → (Int × Bool × Int × Int × ByteArray) → Option (Bool)) (impl_PumpOk : Nat → (Int × Int × Int × Int × Int × Int × Int × Int) → Option (Bool)) (impl_isNumber : Nat → Int → Option (Bool)) (h46 : CtrOK Try.prog 46 (con_impl_GuardOk impl_GuardOk)) (h95 : CtrOK Try.prog 95 (con_impl_MenuOk impl_MenuOk)) (h63 : CtrOK Try.prog 63 (con_impl_PumpOk impl_PumpOk)) (h99 : CtrOK Try.prog 99 (con_impl_isNumber impl_isNumber)) : CtrOK Try.prog 84 (con_impl_DeviceOk (impl_DeviceOk_ impl_GuardOk impl_MenuOk impl_PumpOk impl_isNumber )) :=
  fun_ok0 (c := Try.f84.body.getD .skip) (con_impl_DeviceOk (impl_DeviceOk_ impl_GuardOk impl_MenuOk impl_PumpOk impl_isNumber )) (gOf [(46, con_impl_GuardOk impl_GuardOk), (95, con_impl_MenuOk impl_MenuOk), (63, con_impl_PumpOk impl_PumpOk), (99, con_impl_isNumber impl_isNumber)]) rfl Try.func84 rfl rfl rfl (gOf_cons h46 (gOf_cons h95 (gOf_cons h63 (gOf_cons h99 (gOf_nil))))) (by kernel_rfl) (by kernel_rfl)
theorem ok_impl_DeviceOk : CtrOK Try.prog 84 (con_impl_DeviceOk fun _ => g_impl_DeviceOk) := (okp_impl_DeviceOk _ _ _ _ ok_impl_GuardOk ok_impl_MenuOk ok_impl_PumpOk ok_impl_isNumber).nice e_impl_DeviceOk

theorem okp_impl_copyDevice (impl_copyGuard : Nat → (List Int × Int) → Option ((List Int × Int))) (h67 : CtrOK Try.prog 67 (con_impl_copyGuard impl_copyGuard)) : CtrOK Try.prog 83 (con_impl_copyDevice (impl_copyDevice_ impl_copyGuard )) :=
  fun_ok0 (c := Try.f83.body.getD .skip) (con_impl_copyDevice (impl_copyDevice_ impl_copyGuard )) (gOf [(67, con_impl_copyGuard impl_copyGuard)]) rfl Try.func83 rfl rfl rfl (gOf_cons h67 (gOf_nil)) (by kernel_rfl) (by kernel_rfl)
theorem ok_impl_copyDevice : CtrOK Try.prog 83 (con_impl_copyDevice fun _ => g_impl_copyDevice) := (okp_impl_copyDevice _ ok_impl_copyGuard).nice e_impl_copyDevice

def lp_impl_TickDevice_7 : LP := ⟨[(3, false, [.ptr 2 0]), (4, false, [.ptr 3 0]), (5, false, [.ptr 4 0]), (7, false, [.sl 5]), (44, false, [.sl 5]), (45, false, [.int .i64]), (46, false, [.int .i64])], [.dead, .dead, .box [.int .i64, .str, .str] 81, .box [.int .i64, .int .i64, .int .i64, .int .i64, .int .i64, .int .i64, .int .i64, .int .i64, .sl 6, .int .i64, .int .i64, .bool, .int .i64, .int .i64, .str, .sl 7, .int .i64] 35, .box [.int .i64, .int .i64, .int .i64, .int .i64, .int .i64, .int .i64, .int .i64, .int .i64, .sl 8, .int .i64, .int .i64, .bool, .int .i64, .int .i64, .str, .sl 9, .int .i64] 35, .row (.pair (.int .i64) (.pair (.int .i64) (.pair (.int .i64) (.int .i64)))) 55, .row (.int .i64) 0, .row (.int .i64) 0, .row (.int .i64) 3, .row (.pair (.int .i64) (.pair (.int .i64) (.int .i64))) 41], 2⟩
theorem okp_impl_TickDevice (impl_Allow : Nat → (List Int × Int) × Int → Option (Int)) (impl_DeviceOk : Nat → (Int × Int × Int × Int × Int × Int × Int × Int × List Int × Int × Int × Bool × Int × Int × ByteArray × (List (Int × (Int × Int))) × Int) → Option (Bool)) (impl_Device__order : Nat → (Int × Int × Int × Int × Int × Int × Int × Int × List Int × Int × Int × Bool × Int × Int × ByteArray × (List (Int × (Int × Int))) × Int) × (Int × Int × Int × Int) → Option (Bool × (Int × Int × Int × Int × Int × Int × Int × Int × Unit × Int × Int × Bool × Int × Int × ByteArray × Unit × Int))) (impl_Feel : Nat → (List Int × Int) × Int × Bool → Option ((List Int × Int))) (impl_Give : Nat → (Int × Int × Int × Int × Int × Int × Int × Int) × Int → Option ((Int × Int × Int × Int × Int × Int × Int × Int))) (impl_InOk : Nat → (Int × ByteArray × ByteArray) → Option (Bool)) (impl_Pass : Nat → (List Int × Int) × Int → Option ((List Int × Int))) (impl_ReadOrder : Nat → ByteArray → Option ((Int × Int × Int × Int) × Bool)) (impl_Wants : Nat → (Int × Int × Int × Int × Int × Int × Int × Int) → Option (Int)) (impl_copyDevice : Nat → (Int × Int × Int × Int × Int × Int × Int × Int × List Int × Int × Int × Bool × Int × Int × ByteArray × (List (Int × (Int × Int))) × Int) → Option ((Int × Int × Int × Int × Int × Int × Int × Int × List Int × Int × Int × Bool × Int × Int × ByteArray × (List (Int × (Int × Int))) × Int))) (impl_isSeen : Nat → ((List (Int × (Int × (Int × Int))))) → Option (Bool)) (impl_ordersOf : Nat → (Int × Bool × Int × Int × ByteArray) × (Int × ByteArray × ByteArray) → Option ((Int × Bool × Int × Int × ByteArray) × ((List (Int × (Int × (Int × Int))))))) (h22 : CtrOK Try.prog 22 (con_impl_Allow impl_Allow)) (h84 : CtrOK Try.prog 84 (con_impl_DeviceOk impl_DeviceOk)) (h86 : CtrOK Try.prog 86 (con_impl_Device__order impl_Device__order)) (h34 : CtrOK Try.prog 34 (con_impl_Feel impl_Feel)) (h27 : CtrOK Try.prog 27 (con_impl_Give impl_Give)) (h48 : CtrOK Try.prog 48 (con_impl_InOk impl_InOk)) (h30 : CtrOK Try.prog 30 (con_impl_Pass impl_Pass)) (h87 : CtrOK Try.prog 87 (con_impl_ReadOrder impl_ReadOrder)) (h28 : CtrOK Try.prog 28 (con_impl_Wants impl_Wants)) (h83 : CtrOK Try.prog 83 (con_impl_copyDevice impl_copyDevice)) (h88 : CtrOK Try.prog 88 (con_impl_isSeen impl_isSeen)) (h85 : CtrOK Try.prog 85 (con_impl_ordersOf impl_ordersOf)) : CtrOK Try.prog 50 (con_impl_TickDevice (impl_TickDevice_ impl_Allow impl_DeviceOk impl_Device__order impl_Feel impl_Give impl_InOk impl_Pass impl_ReadOrder impl_Wants impl_copyDevice impl_isSeen impl_ordersOf )) :=
  fun_ok (c := Try.f50.body.getD .skip) (con_impl_TickDevice (impl_TickDevice_ impl_Allow impl_DeviceOk impl_Device__order impl_Feel impl_Give impl_InOk impl_Pass impl_ReadOrder impl_Wants impl_copyDevice impl_isSeen impl_ordersOf )) (gOf [(22, con_impl_Allow impl_Allow), (84, con_impl_DeviceOk impl_DeviceOk), (86, con_impl_Device__order impl_Device__order), (34, con_impl_Feel impl_Feel), (27, con_impl_Give impl_Give), (48, con_impl_InOk impl_InOk), (30, con_impl_Pass impl_Pass), (87, con_impl_ReadOrder impl_ReadOrder), (28, con_impl_Wants impl_Wants), (83, con_impl_copyDevice impl_copyDevice), (88, con_impl_isSeen impl_isSeen), (85, con_impl_ordersOf impl_ordersOf)]) [] [⟨7, lp_impl_TickDevice_7, impl_TickDevice_L7 impl_Allow impl_DeviceOk impl_Device__order impl_Feel impl_Give impl_InOk impl_Pass impl_ReadOrder impl_Wants impl_copyDevice impl_isSeen impl_ordersOf ⟩] rfl Try.func50 rfl rfl rfl (gOf_cons h22 (gOf_cons h84 (gOf_cons h86 (gOf_cons h34 (gOf_cons h27 (gOf_cons h48 (gOf_cons h30 (gOf_cons h87 (gOf_cons h28 (gOf_cons h83 (gOf_cons h88 (gOf_cons h85 (gOf_nil))))))))))))) (by kernel_rfl) [7] 2 (by kernel_rfl) (by kernel_rfl)
    (fun x => .cons (⟨7, lp_impl_TickDevice_7, impl_TickDevice_L7 impl_Allow impl_DeviceOk impl_Device__order impl_Feel impl_Give impl_InOk impl_Pass impl_ReadOrder impl_Wants impl_copyDevice impl_isSeen impl_ordersOf ⟩ : Lab (OKs [.v true [.int .i64, .int .i64, .int .i64, .int .i64, .int .i64, .int .i64, .int .i64, .int .i64, .own (.int .i64) 3, .int .i64, .int .i64, .bool, .int .i64, .int .i64, .str, .own (.pair (.int .i64) (.pair (.int .i64) (.int .i64))) 41, .int .i64]])) rfl rfl (by kernel_rfl) (by kernel_rfl) (.nil _))
theorem ok_impl_TickDevice : CtrOK Try.prog 50 (con_impl_TickDevice fun _ => g_impl_TickDevice) := (okp_impl_TickDevice _ _ _ _ _ _ _ _ _ _ _ _ ok_impl_Allow ok_impl_DeviceOk ok_impl_Device__order ok_impl_Feel ok_impl_Give ok_impl_InOk ok_impl_Pass ok_impl_ReadOrder ok_impl_Wants ok_impl_copyDevice ok_impl_isSeen ok_impl_ordersOf).nice e_impl_TickDevice

theorem okp_impl_PumpNew : CtrOK Try.prog 26 (con_impl_PumpNew (impl_PumpNew_ )) :=
  fun_ok0 (c := Try.f26.body.getD .skip) (con_impl_PumpNew (impl_PumpNew_ )) (gOf []) rfl Try.func26 rfl rfl rfl (gOf_nil) (by kernel_rfl) (by kernel_rfl)
theorem ok_impl_PumpNew : CtrOK Try.prog 26 (con_impl_PumpNew fun _ => g_impl_PumpNew) := (okp_impl_PumpNew  ).nice e_impl_PumpNew

theorem okp_impl_DeviceNew (impl_MenuNew : Nat → Unit → Option ((Int × Bool × Int × Int × ByteArray))) (impl_PumpNew : Nat → Unit → Option ((Int × Int × Int × Int × Int × Int × Int × Int))) (h40 : CtrOK Try.prog 40 (con_impl_MenuNew impl_MenuNew)) (h26 : CtrOK Try.prog 26 (con_impl_PumpNew impl_PumpNew)) : CtrOK Try.prog 49 (con_impl_DeviceNew (impl_DeviceNew_ impl_MenuNew impl_PumpNew )) :=
  fun_ok0 (c := Try.f49.body.getD .skip) (con_impl_DeviceNew (impl_DeviceNew_ impl_MenuNew impl_PumpNew )) (gOf [(40, con_impl_MenuNew impl_MenuNew), (26, con_impl_PumpNew impl_PumpNew)]) rfl Try.func49 rfl rfl rfl (gOf_cons h40 (gOf_cons h26 (gOf_nil))) (by kernel_rfl) (by kernel_rfl)
theorem ok_impl_DeviceNew : CtrOK Try.prog 49 (con_impl_DeviceNew fun _ => g_impl_DeviceNew) := (okp_impl_DeviceNew _ _ ok_impl_MenuNew ok_impl_PumpNew).nice e_impl_DeviceNew

def lp_impl_RunDevice_4 : LP := ⟨[(0, false, [.sl 0]), (2, false, [.ptr 1 0]), (13, false, [.sl 0]), (14, false, [.int .i64]), (15, false, [.int .i64])], [.ro (.pair (.int .i64) (.pair .str .str)) 0, .box [.int .i64, .int .i64, .int .i64, .int .i64, .int .i64, .int .i64, .int .i64, .int .i64, .sl 2, .int .i64, .int .i64, .bool, .int .i64, .int .i64, .str, .sl 3, .int .i64] 35, .row (.int .i64) 0, .row (.int .i64) 0], 1⟩
def lp_impl_RunDevice_11 : LP := ⟨[(2, false, [.ptr 1 0]), (6, false, [.ptr 2 0]), (25, false, [.sl 0]), (26, false, [.int .i64]), (27, false, [.int .i64])], [.ro (.pair (.int .i64) (.pair .str .str)) 0, .box [.int .i64, .int .i64, .int .i64, .int .i64, .int .i64, .int .i64, .int .i64, .int .i64, .sl 3, .int .i64, .int .i64, .bool, .int .i64, .int .i64, .str, .sl 4, .int .i64] 35, .box [.int .i64, .int .i64, .int .i64, .int .i64, .int .i64, .int .i64, .int .i64, .int .i64, .sl 5, .int .i64, .int .i64, .bool, .int .i64, .int .i64, .str, .sl 6, .int .i64] 35, .row (.int .i64) 0, .row (.int .i64) 0, .row (.int .i64) 3, .row (.pair (.int .i64) (.pair (.int .i64) (.int .i64))) 41], 1⟩
theorem okp_impl_RunDevice (impl_DeviceNew : Nat → Unit → Option ((Int × Int × Int × Int × Int × Int × Int × Int × List Int × Int × Int × Bool × Int × Int × ByteArray × (List (Int × (Int × Int))) × Int))) (impl_InOk : Nat → (Int × ByteArray × ByteArray) → Option (Bool)) (impl_TickDevice : Nat → (Int × Int × Int × Int × Int × Int × Int × Int × List Int × Int × Int × Bool × Int × Int × ByteArray × (List (Int × (Int × Int))) × Int) × (Int × ByteArray × ByteArray) → Option ((Int × Int × Int × Int × Int × Int × Int × Int × List Int × Int × Int × Bool × Int × Int × ByteArray × (List (Int × (Int × Int))) × Int))) (h49 : CtrOK Try.prog 49 (con_impl_DeviceNew impl_DeviceNew)) (h48 : CtrOK Try.prog 48 (con_impl_InOk impl_InOk)) (h50 : CtrOK Try.prog 50 (con_impl_TickDevice impl_TickDevice)) : CtrOK Try.prog 15 (con_impl_RunDevice (impl_RunDevice_ impl_DeviceNew impl_InOk impl_TickDevice )) :=
  fun_ok (c := Try.f15.body.getD .skip) (con_impl_RunDevice (impl_RunDevice_ impl_DeviceNew impl_InOk impl_TickDevice )) (gOf [(49, con_impl_DeviceNew impl_DeviceNew), (48, con_impl_InOk impl_InOk), (50, con_impl_TickDevice impl_TickDevice)]) [] [⟨4, lp_impl_RunDevice_4, impl_RunDevice_L4 impl_DeviceNew impl_InOk impl_TickDevice ⟩, ⟨11, lp_impl_RunDevice_11, impl_RunDevice_L11 impl_DeviceNew impl_InOk impl_TickDevice ⟩] rfl Try.func15 rfl rfl rfl (gOf_cons h49 (gOf_cons h48 (gOf_cons h50 (gOf_nil)))) (by kernel_rfl) [4, 11] 1 (by kernel_rfl) (by kernel_rfl)
    (fun x => .cons (⟨4, lp_impl_RunDevice_4, impl_RunDevice_L4 impl_DeviceNew impl_InOk impl_TickDevice ⟩ : Lab (OKs [.v true [.int .i64, .int .i64, .int .i64, .int .i64, .int .i64, .int .i64, .int .i64, .int .i64, .own (.int .i64) 3, .int .i64, .int .i64, .bool, .int .i64, .int .i64, .str, .own (.pair (.int .i64) (.pair (.int .i64) (.int .i64))) 41, .int .i64], .v false [.bool]])) rfl rfl (by kernel_rfl) (by kernel_rfl) (.cons (⟨11, lp_impl_RunDevice_11, impl_RunDevice_L11 impl_DeviceNew impl_InOk impl_TickDevice ⟩ : Lab (OKs [.v true [.int .i64, .int .i64, .int .i64, .int .i64, .int .i64, .int .i64, .int .i64, .int .i64, .own (.int .i64) 3, .int .i64, .int .i64, .bool, .int .i64, .int .i64, .str, .own (.pair (.int .i64) (.pair (.int .i64) (.int .i64))) 41, .int .i64], .v false [.bool]])) rfl rfl (by kernel_rfl) (by kernel_rfl) (.nil _)))
theorem ok_impl_RunDevice : CtrOK Try.prog 15 (con_impl_RunDevice fun _ => g_impl_RunDevice) := (okp_impl_RunDevice _ _ _ ok_impl_DeviceNew ok_impl_InOk ok_impl_TickDevice).nice e_impl_RunDevice

theorem okp_spec_l01Byte : CtrOK Try.prog 61 (con_spec_l01Byte (spec_l01Byte_ )) :=
  fun_ok0 (c := Try.f61.body.getD .skip) (con_spec_l01Byte (spec_l01Byte_ )) (gOf []) rfl Try.func61 rfl rfl rfl (gOf_nil) (by kernel_rfl) (by kernel_rfl)
theorem ok_spec_l01Byte : CtrOK Try.prog 61 (con_spec_l01Byte fun _ => g_spec_l01Byte) := (okp_spec_l01Byte  ).nice e_spec_l01Byte

def lp_spec_l01Text_5 : LP := ⟨[(0, false, [.ptr 0 0]), (1, false, [.int .i64]), (5, false, [.sl 2]), (6, false, [.int .i64])], [.box [.sl 1, .int .i64, .int .i64] 114, .ro (.int .u8) 0, .row (.int .u8) 5], 2⟩
theorem okp_spec_l01Text (spec_l01Byte : Nat → (List Int × Int × Int) → Option (Int × (Unit × Int × Int))) (h61 : CtrOK Try.prog 61 (con_spec_l01Byte spec_l01Byte)) : CtrOK Try.prog 113 (con_spec_l01Text (spec_l01Text_ spec_l01Byte )) :=
  fun_ok (c := Try.f113.body.getD .skip) (con_spec_l01Text (spec_l01Text_ spec_l01Byte )) (gOf [(61, con_spec_l01Byte spec_l01Byte)]) [] [⟨5, lp_spec_l01Text_5, spec_l01Text_L5 spec_l01Byte ⟩] rfl Try.func113 rfl rfl rfl (gOf_cons h61 (gOf_nil)) (by kernel_rfl) [5] 2 (by kernel_rfl) (by kernel_rfl)
    (fun x => .cons (⟨5, lp_spec_l01Text_5, spec_l01Text_L5 spec_l01Byte ⟩ : Lab (OKs [.v false [.str], .box [.keep, .int .i64, .int .i64] 114])) rfl rfl (by kernel_rfl) (by kernel_rfl) (.nil _))
theorem ok_spec_l01Text : CtrOK Try.prog 113 (con_spec_l01Text fun _ => g_spec_l01Text) := (okp_spec_l01Text _ ok_spec_l01Byte).nice e_spec_l01Text

theorem okp_spec_l01Below (spec_l01Byte : Nat → (List Int × Int × Int) → Option (Int × (Unit × Int × Int))) (h61 : CtrOK Try.prog 61 (con_spec_l01Byte spec_l01Byte)) : CtrOK Try.prog 62 (con_spec_l01Below (spec_l01Below_ spec_l01Byte )) :=
  fun_ok0 (c := Try.f62.body.getD .skip) (con_spec_l01Below (spec_l01Below_ spec_l01Byte )) (gOf [(61, con_spec_l01Byte spec_l01Byte)]) rfl Try.func62 rfl rfl rfl (gOf_cons h61 (gOf_nil)) (by kernel_rfl) (by kernel_rfl)
theorem ok_spec_l01Below : CtrOK Try.prog 62 (con_spec_l01Below fun _ => g_spec_l01Below) := (okp_spec_l01Below _ ok_spec_l01Byte).nice e_spec_l01Below

theorem okp_spec_l02Spoilt (spec_l01Below : Nat → (List Int × Int × Int) × Int → Option (Int × (Unit × Int × Int))) (spec_l01Text : Nat → (List Int × Int × Int) × Int → Option (ByteArray × (Unit × Int × Int))) (h62 : CtrOK Try.prog 62 (con_spec_l01Below spec_l01Below)) (h113 : CtrOK Try.prog 113 (con_spec_l01Text spec_l01Text)) : CtrOK Try.prog 106 (con_spec_l02Spoilt (spec_l02Spoilt_ spec_l01Below spec_l01Text )) :=
  fun_ok0 (c := Try.f106.body.getD .skip) (con_spec_l02Spoilt (spec_l02Spoilt_ spec_l01Below spec_l01Text )) (gOf [(62, con_spec_l01Below spec_l01Below), (113, con_spec_l01Text spec_l01Text)]) rfl Try.func106 rfl rfl rfl (gOf_cons h62 (gOf_cons h113 (gOf_nil))) (by kernel_rfl) (by kernel_rfl)
theorem ok_spec_l02Spoilt : CtrOK Try.prog 106 (con_spec_l02Spoilt fun _ => g_spec_l02Spoilt) := (okp_spec_l02Spoilt _ _ ok_spec_l01Below ok_spec_l01Text).nice e_spec_l02Spoilt

theorem okp_spec_l01Once (spec_l01Below : Nat → (List Int × Int × Int) × Int → Option (Int × (Unit × Int × Int))) (h62 : CtrOK Try.prog 62 (con_spec_l01Below spec_l01Below)) : CtrOK Try.prog 98 (con_spec_l01Once (spec_l01Once_ spec_l01Below )) :=
  fun_ok0 (c := Try.f98.body.getD .skip) (con_spec_l01Once (spec_l01Once_ spec_l01Below )) (gOf [(62, con_spec_l01Below spec_l01Below)]) rfl Try.func98 rfl rfl rfl (gOf_cons h62 (gOf_nil)) (by kernel_rfl) (by kernel_rfl)
theorem ok_spec_l01Once : CtrOK Try.prog 98 (con_spec_l01Once fun _ => g_spec_l01Once) := (okp_spec_l01Once _ ok_spec_l01Below).nice e_spec_l01Once

theorem okp_spec_l02Four : CtrOK Try.prog 116 (con_spec_l02Four (spec_l02Four_ )) :=
  fun_ok0 (c := Try.f116.body.getD .skip) (con_spec_l02Four (spec_l02Four_ )) (gOf []) rfl Try.func116 rfl rfl rfl (gOf_nil) (by kernel_rfl) (by kernel_rfl)
theorem ok_spec_l02Four : CtrOK Try.prog 116 (con_spec_l02Four fun _ => g_spec_l02Four) := (okp_spec_l02Four  ).nice e_spec_l02Four

def lp_spec_SumMore_2 : LP := ⟨[(0, false, [.int .u32]), (1, false, [.str]), (5, false, [.int .i64])], [], 0⟩
def lp_spec_SumMore_6 : LP := ⟨[(0, false, [.int .u32]), (1, false, [.str]), (5, false, [.int .i64]), (6, false, [.int .i64])], [], 0⟩
theorem okp_spec_SumMore : CtrOK Try.prog 119 (con_spec_SumMore (spec_SumMore_ )) :=
  fun_ok (c := Try.f119.body.getD .skip) (con_spec_SumMore (spec_SumMore_ )) (gOf []) [] [⟨2, lp_spec_SumMore_2, spec_SumMore_L2 ⟩, ⟨6, lp_spec_SumMore_6, spec_SumMore_L6 ⟩] rfl Try.func119 rfl rfl rfl (gOf_nil) (by kernel_rfl) [2, 6] 0 (by kernel_rfl) (by kernel_rfl)
    (fun x => .cons (⟨2, lp_spec_SumMore_2, spec_SumMore_L2 ⟩ : Lab (OKs [.v false [.int .u32]])) rfl rfl (by kernel_rfl) (by kernel_rfl) (.cons (⟨6, lp_spec_SumMore_6, spec_SumMore_L6 ⟩ : Lab (OKs [.v false [.int .u32]])) rfl rfl (by kernel_rfl) (by kernel_rfl) (.nil _)))
theorem ok_spec_SumMore : CtrOK Try.prog 119 (con_spec_SumMore fun _ => g_spec_SumMore) := (okp_spec_SumMore  ).nice e_spec_SumMore

theorem okp_spec_SumOf (spec_SumMore : Nat → Int × ByteArray → Option (Int)) (h119 : CtrOK Try.prog 119 (con_spec_SumMore spec_SumMore)) : CtrOK Try.prog 117 (con_spec_SumOf (spec_SumOf_ spec_SumMore )) :=
  fun_ok0 (c := Try.f117.body.getD .skip) (con_spec_SumOf (spec_SumOf_ spec_SumMore )) (gOf [(119, con_spec_SumMore spec_SumMore)]) rfl Try.func117 rfl rfl rfl (gOf_cons h119 (gOf_nil)) (by kernel_rfl) (by kernel_rfl)
theorem ok_spec_SumOf : CtrOK Try.prog 117 (con_spec_SumOf fun _ => g_spec_SumOf) := (okp_spec_SumOf _ ok_spec_SumMore).nice e_spec_SumOf

theorem okp_spec_Sealed (spec_SumOf : Nat → ByteArray → Option (Int)) (spec_l02Four : Nat → Int → Option (ByteArray)) (h117 : CtrOK Try.prog 117 (con_spec_SumOf spec_SumOf)) (h116 : CtrOK Try.prog 116 (con_spec_l02Four spec_l02Four)) : CtrOK Try.prog 111 (con_spec_Sealed (spec_Sealed_ spec_SumOf spec_l02Four )) :=
  fun_ok0 (c := Try.f111.body.getD .skip) (con_spec_Sealed (spec_Sealed_ spec_SumOf spec_l02Four )) (gOf [(117, con_spec_SumOf spec_SumOf), (116, con_spec_l02Four spec_l02Four)]) rfl Try.func111 rfl rfl rfl (gOf_cons h117 (gOf_cons h116 (gOf_nil))) (by kernel_rfl) (by kernel_rfl)
theorem ok_spec_Sealed : CtrOK Try.prog 111 (con_spec_Sealed fun _ => g_spec_Sealed) := (okp_spec_Sealed _ _ ok_spec_SumOf ok_spec_l02Four).nice e_spec_Sealed

def lp_spec_l01Var_2 : LP := ⟨[(0, false, [.int .i64]), (3, false, [.sl 0])], [.row (.int .u8) 5], 0⟩
theorem okp_spec_l01Var : CtrOK Try.prog 112 (con_spec_l01Var (spec_l01Var_ )) :=
  fun_ok (c := Try.f112.body.getD .skip) (con_spec_l01Var (spec_l01Var_ )) (gOf []) [] [⟨2, lp_spec_l01Var_2, spec_l01Var_L2 ⟩] rfl Try.func112 rfl rfl rfl (gOf_nil) (by kernel_rfl) [2] 0 (by kernel_rfl) (by kernel_rfl)
    (fun x => .cons (⟨2, lp_spec_l01Var_2, spec_l01Var_L2 ⟩ : Lab (OKs [.v false [.str]])) rfl rfl (by kernel_rfl) (by kernel_rfl) (.nil _))
theorem ok_spec_l01Var : CtrOK Try.prog 112 (con_spec_l01Var fun _ => g_spec_l01Var) := (okp_spec_l01Var  ).nice e_spec_l01Var

theorem okp_spec_l01In : CtrOK Try.prog 80 (con_spec_l01In (spec_l01In_ )) :=
  fun_ok0 (c := Try.f80.body.getD .skip) (con_spec_l01In (spec_l01In_ )) (gOf []) rfl Try.func80 rfl rfl rfl (gOf_nil) (by kernel_rfl) (by kernel_rfl)
theorem ok_spec_l01In : CtrOK Try.prog 80 (con_spec_l01In fun _ => g_spec_l01In) := (okp_spec_l01In  ).nice e_spec_l01In

theorem okp_spec_OrderOk (spec_l01In : Nat → Int × Int × Int → Option (Bool)) (h80 : CtrOK Try.prog 80 (con_spec_l01In spec_l01In)) : CtrOK Try.prog 41 (con_spec_OrderOk (spec_OrderOk_ spec_l01In )) :=
  fun_ok0 (c := Try.f41.body.getD .skip) (con_spec_OrderOk (spec_OrderOk_ spec_l01In )) (gOf [(80, con_spec_l01In spec_l01In)]) rfl Try.func41 rfl rfl rfl (gOf_cons h80 (gOf_nil)) (by kernel_rfl) (by kernel_rfl)
theorem ok_spec_OrderOk : CtrOK Try.prog 41 (con_spec_OrderOk fun _ => g_spec_OrderOk) := (okp_spec_OrderOk _ ok_spec_l01In).nice e_spec_OrderOk

theorem okp_spec_OrderText (spec_OrderOk : Nat → (Int × Int × Int × Int) → Option (Bool)) (spec_Sealed : Nat → ByteArray → Option (ByteArray × Bool)) (spec_l01Var : Nat → Int → Option (ByteArray)) (h41 : CtrOK Try.prog 41 (con_spec_OrderOk spec_OrderOk)) (h111 : CtrOK Try.prog 111 (con_spec_Sealed spec_Sealed)) (h112 : CtrOK Try.prog 112 (con_spec_l01Var spec_l01Var)) : CtrOK Try.prog 104 (con_spec_OrderText (spec_OrderText_ spec_OrderOk spec_Sealed spec_l01Var )) :=
  fun_ok0 (c := Try.f104.body.getD .skip) (con_spec_OrderText (spec_OrderText_ spec_OrderOk spec_Sealed spec_l01Var )) (gOf [(41, con_spec_OrderOk spec_OrderOk), (111, con_spec_Sealed spec_Sealed), (112, con_spec_l01Var spec_l01Var)]) rfl Try.func104 rfl rfl rfl (gOf_cons h41 (gOf_cons h111 (gOf_cons h112 (gOf_nil)))) (by kernel_rfl) (by kernel_rfl)
theorem ok_spec_OrderText : CtrOK Try.prog 104 (con_spec_OrderText fun _ => g_spec_OrderText) := (okp_spec_OrderText _ _ _ ok_spec_OrderOk ok_spec_Sealed ok_spec_l01Var).nice e_spec_OrderText

theorem okp_spec_l01PickInt (spec_l01Below : Nat → (List Int × Int × Int) × Int → Option (Int × (Unit × Int × Int))) (h62 : CtrOK Try.prog 62 (con_spec_l01Below spec_l01Below)) : CtrOK Try.prog 102 (con_spec_l01PickInt (spec_l01PickInt_ spec_l01Below )) :=
  fun_ok0 (c := Try.f102.body.getD .skip) (con_spec_l01PickInt (spec_l01PickInt_ spec_l01Below )) (gOf [(62, con_spec_l01Below spec_l01Below)]) rfl Try.func102 rfl rfl rfl (gOf_cons h62 (gOf_nil)) (by kernel_rfl) (by kernel_rfl)
theorem ok_spec_l01PickInt : CtrOK Try.prog 102 (con_spec_l01PickInt fun _ => g_spec_l01PickInt) := (okp_spec_l01PickInt _ ok_spec_l01Below).nice e_spec_l01PickInt

theorem okp_spec_l14Order (spec_l01Below : Nat → (List Int × Int × Int) × Int → Option (Int × (Unit × Int × Int))) (spec_l01PickInt : Nat → (List Int × Int × Int) × List Int → Option (Int × (Unit × Int × Int))) (h62 : CtrOK Try.prog 62 (con_spec_l01Below spec_l01Below)) (h102 : CtrOK Try.prog 102 (con_spec_l01PickInt spec_l01PickInt)) : CtrOK Try.prog 105 (con_spec_l14Order (spec_l14Order_ spec_l01Below spec_l01PickInt )) :=
  fun_ok0 (c := Try.f105.body.getD .skip) (con_spec_l14Order (spec_l14Order_ spec_l01Below spec_l01PickInt )) (gOf [(62, con_spec_l01Below spec_l01Below), (102, con_spec_l01PickInt spec_l01PickInt)]) rfl Try.func105 rfl rfl rfl (gOf_cons h62 (gOf_cons h102 (gOf_nil))) (by kernel_rfl) (by kernel_rfl)
theorem ok_spec_l14Order : CtrOK Try.prog 105 (con_spec_l14Order fun _ => g_spec_l14Order) := (okp_spec_l14Order _ _ ok_spec_l01Below ok_spec_l01PickInt).nice e_spec_l14Order

theorem okp_spec_l01Pick (spec_l01Below : Nat → (List Int × Int × Int) × Int → Option (Int × (Unit × Int × Int))) (h62 : CtrOK Try.prog 62 (con_spec_l01Below spec_l01Below)) : CtrOK Try.prog 110 (con_spec_l01Pick (spec_l01Pick_ spec_l01Below )) :=
  fun_ok0 (c := Try.f110.body.getD .skip) (con_spec_l01Pick (spec_l01Pick_ spec_l01Below )) (gOf [(62, con_spec_l01Below spec_l01Below)]) rfl Try.func110 rfl rfl rfl (gOf_cons h62 (gOf_nil)) (by kernel_rfl) (by kernel_rfl)
theorem ok_spec_l01Pick : CtrOK Try.prog 110 (con_spec_l01Pick fun _ => g_spec_l01Pick) := (okp_spec_l01Pick _ ok_spec_l01Below).nice e_spec_l01Pick

def lp_spec_l17Keys_3 : LP := ⟨[(0, false, [.ptr 0 0]), (3, false, [.str]), (4, false, [.int .i64])], [.box [.sl 1, .int .i64, .int .i64] 114, .ro (.int .u8) 0], 2⟩
theorem okp_spec_l17Keys (spec_l01Below : Nat → (List Int × Int × Int) × Int → Option (Int × (Unit × Int × Int))) (spec_l01Pick : Nat → (List Int × Int × Int) × List ByteArray → Option (ByteArray × (Unit × Int × Int))) (h62 : CtrOK Try.prog 62 (con_spec_l01Below spec_l01Below)) (h110 : CtrOK Try.prog 110 (con_spec_l01Pick spec_l01Pick)) : CtrOK Try.prog 103 (con_spec_l17Keys (spec_l17Keys_ spec_l01Below spec_l01Pick )) :=
  fun_ok (c := Try.f103.body.getD .skip) (con_spec_l17Keys (spec_l17Keys_ spec_l01Below spec_l01Pick )) (gOf [(62, con_spec_l01Below spec_l01Below), (110, con_spec_l01Pick spec_l01Pick)]) [] [⟨3, lp_spec_l17Keys_3, spec_l17Keys_L3 spec_l01Below spec_l01Pick ⟩] rfl Try.func103 rfl rfl rfl (gOf_cons h62 (gOf_cons h110 (gOf_nil))) (by kernel_rfl) [3] 2 (by kernel_rfl) (by kernel_rfl)
    (fun x => .cons (⟨3, lp_spec_l17Keys_3, spec_l17Keys_L3 spec_l01Below spec_l01Pick ⟩ : Lab (OKs [.v false [.str], .box [.keep, .int .i64, .int .i64] 114])) rfl rfl (by kernel_rfl) (by kernel_rfl) (.nil _))
theorem ok_spec_l17Keys : CtrOK Try.prog 103 (con_spec_l17Keys fun _ => g_spec_l17Keys) := (okp_spec_l17Keys _ _ ok_spec_l01Below ok_spec_l01Pick).nice e_spec_l17Keys

theorem okp_spec_l18In (spec_OrderText : Nat → (Int × Int × Int × Int) → Option (ByteArray × Bool)) (spec_l01Once : Nat → (List Int × Int × Int) × Int → Option (Bool × (Unit × Int × Int))) (spec_l01PickInt : Nat → (List Int × Int × Int) × List Int → Option (Int × (Unit × Int × Int))) (spec_l02Spoilt : Nat → (List Int × Int × Int) × ByteArray → Option (ByteArray × (Unit × Int × Int))) (spec_l14Order : Nat → (List Int × Int × Int) → Option ((Int × Int × Int × Int) × (Unit × Int × Int))) (spec_l17Keys : Nat → (List Int × Int × Int) → Option (ByteArray × (Unit × Int × Int))) (h104 : CtrOK Try.prog 104 (con_spec_OrderText spec_OrderText)) (h98 : CtrOK Try.prog 98 (con_spec_l01Once spec_l01Once)) (h102 : CtrOK Try.prog 102 (con_spec_l01PickInt spec_l01PickInt)) (h106 : CtrOK Try.prog 106 (con_spec_l02Spoilt spec_l02Spoilt)) (h105 : CtrOK Try.prog 105 (con_spec_l14Order spec_l14Order)) (h103 : CtrOK Try.prog 103 (con_spec_l17Keys spec_l17Keys)) : CtrOK Try.prog 89 (con_spec_l18In (spec_l18In_ spec_OrderText spec_l01Once spec_l01PickInt spec_l02Spoilt spec_l14Order spec_l17Keys )) :=
  fun_ok0 (c := Try.f89.body.getD .skip) (con_spec_l18In (spec_l18In_ spec_OrderText spec_l01Once spec_l01PickInt spec_l02Spoilt spec_l14Order spec_l17Keys )) (gOf [(104, con_spec_OrderText spec_OrderText), (98, con_spec_l01Once spec_l01Once), (102, con_spec_l01PickInt spec_l01PickInt), (106, con_spec_l02Spoilt spec_l02Spoilt), (105, con_spec_l14Order spec_l14Order), (103, con_spec_l17Keys spec_l17Keys)]) rfl Try.func89 rfl rfl rfl (gOf_cons h104 (gOf_cons h98 (gOf_cons h102 (gOf_cons h106 (gOf_cons h105 (gOf_cons h103 (gOf_nil))))))) (by kernel_rfl) (by kernel_rfl)
theorem ok_spec_l18In : CtrOK Try.prog 89 (con_spec_l18In fun _ => g_spec_l18In) := (okp_spec_l18In _ _ _ _ _ _ ok_spec_OrderText ok_spec_l01Once ok_spec_l01PickInt ok_spec_l02Spoilt ok_spec_l14Order ok_spec_l17Keys).nice e_spec_l18In

def lp_spec_l18Ins_6 : LP := ⟨[(0, false, [.ptr 0 0]), (5, false, [.sl 3]), (6, false, [.int .i64]), (7, false, [.int .i64])], [.box [.sl 1, .int .i64, .int .i64] 114, .ro (.int .u8) 0, .dead, .row (.pair (.int .i64) (.pair .str .str)) 81], 3⟩
theorem okp_spec_l18Ins (spec_l18In : Nat → (List Int × Int × Int) → Option ((Int × ByteArray × ByteArray) × (Unit × Int × Int))) (h89 : CtrOK Try.prog 89 (con_spec_l18In spec_l18In)) : CtrOK Try.prog 51 (con_spec_l18Ins (spec_l18Ins_ spec_l18In )) :=
  fun_ok (c := Try.f51.body.getD .skip) (con_spec_l18Ins (spec_l18Ins_ spec_l18In )) (gOf [(89, con_spec_l18In spec_l18In)]) [] [⟨6, lp_spec_l18Ins_6, spec_l18Ins_L6 spec_l18In ⟩] rfl Try.func51 rfl rfl rfl (gOf_cons h89 (gOf_nil)) (by kernel_rfl) [6] 3 (by kernel_rfl) (by kernel_rfl)
    (fun x => .cons (⟨6, lp_spec_l18Ins_6, spec_l18Ins_L6 spec_l18In ⟩ : Lab (OKs [.v false [.own (.pair (.int .i64) (.pair .str .str)) 81], .box [.keep, .int .i64, .int .i64] 114])) rfl rfl (by kernel_rfl) (by kernel_rfl) (.nil _))
theorem ok_spec_l18Ins : CtrOK Try.prog 51 (con_spec_l18Ins fun _ => g_spec_l18Ins) := (okp_spec_l18Ins _ ok_spec_l18In).nice e_spec_l18Ins

def lp_spec_l01New_3 : LP := ⟨[(0, false, [.sl 0]), (3, false, [.int .i64]), (4, false, [.int .i64])], [.ro (.int .u8) 0], 1⟩
theorem okp_spec_l01New : CtrOK Try.prog 52 (con_spec_l01New (spec_l01New_ )) :=
  fun_ok (c := Try.f52.body.getD .skip) (con_spec_l01New (spec_l01New_ )) (gOf []) [] [⟨3, lp_spec_l01New_3, spec_l01New_L3 ⟩] rfl Try.func52 rfl rfl rfl (gOf_nil) (by kernel_rfl) [3] 1 (by kernel_rfl) (by kernel_rfl)
    (fun x => .cons (⟨3, lp_spec_l01New_3, spec_l01New_L3 ⟩ : Lab (OKs [.box [.al 0 0, .int .i64, .int .i64] 114])) rfl rfl (by kernel_rfl) (by kernel_rfl) (.nil _))
theorem ok_spec_l01New : CtrOK Try.prog 52 (con_spec_l01New fun _ => g_spec_l01New) := (okp_spec_l01New  ).nice e_spec_l01New

theorem okp_spec_DrawIns (spec_l01New : Nat → List Int → Option ((Unit × Int × Int))) (spec_l18Ins : Nat → (List Int × Int × Int) × List Int → Option (((List (Int × (ByteArray × ByteArray)))) × (Unit × Int × Int))) (h52 : CtrOK Try.prog 52 (con_spec_l01New spec_l01New)) (h51 : CtrOK Try.prog 51 (con_spec_l18Ins spec_l18Ins)) : CtrOK Try.prog 16 (con_spec_DrawIns (spec_DrawIns_ spec_l01New spec_l18Ins )) :=
  fun_ok0 (c := Try.f16.body.getD .skip) (con_spec_DrawIns (spec_DrawIns_ spec_l01New spec_l18Ins )) (gOf [(52, con_spec_l01New spec_l01New), (51, con_spec_l18Ins spec_l18Ins)]) rfl Try.func16 rfl rfl rfl (gOf_cons h52 (gOf_cons h51 (gOf_nil))) (by kernel_rfl) (by kernel_rfl)
theorem ok_spec_DrawIns : CtrOK Try.prog 16 (con_spec_DrawIns fun _ => g_spec_DrawIns) := (okp_spec_DrawIns _ _ ok_spec_l01New ok_spec_l18Ins).nice e_spec_DrawIns

theorem okp_laws_big : CtrOK Try.prog 14 (con_laws_big (laws_big_ )) :=
  fun_ok0 (c := Try.f14.body.getD .skip) (con_laws_big (laws_big_ )) (gOf []) rfl Try.func14 rfl rfl rfl (gOf_nil) (by kernel_rfl) (by kernel_rfl)
theorem ok_laws_big : CtrOK Try.prog 14 (con_laws_big fun _ => g_laws_big) := (okp_laws_big  ).nice e_laws_big

def lp_laws_FnLimits_6 : LP := ⟨[(3, false, [.ptr 1 0]), (4, false, [.bool]), (5, false, [.int .i64]), (6, false, [.int .i64])], [.dead, .box [.int .i64, .int .i64, .int .i64, .int .i64, .int .i64, .int .i64, .int .i64, .int .i64, .sl 2, .int .i64, .int .i64, .bool, .int .i64, .int .i64, .str, .sl 3, .int .i64] 35, .row (.int .i64) 3, .row (.pair (.int .i64) (.pair (.int .i64) (.int .i64))) 41], 1⟩
def lp_laws_FnLimits_11 : LP := ⟨[(3, false, [.ptr 1 0]), (4, false, [.bool]), (5, false, [.int .i64]), (6, false, [.int .i64]), (7, false, [.int .i64]), (8, false, [.int .i64])], [.dead, .box [.int .i64, .int .i64, .int .i64, .int .i64, .int .i64, .int .i64, .int .i64, .int .i64, .sl 2, .int .i64, .int .i64, .bool, .int .i64, .int .i64, .str, .sl 3, .int .i64] 35, .row (.int .i64) 3, .row (.pair (.int .i64) (.pair (.int .i64) (.int .i64))) 41], 1⟩
theorem okp_laws_FnLimits (impl_RunDevice : Nat → ((List (Int × (ByteArray × ByteArray)))) → Option ((Int × Int × Int × Int × Int × Int × Int × Int × List Int × Int × Int × Bool × Int × Int × ByteArray × (List (Int × (Int × Int))) × Int) × Bool)) (impl_TotalOf : Nat → ((List (Int × (Int × Int)))) → Option (Int)) (impl_WithinLimits : Nat → ((List (Int × (Int × Int)))) → Option (Bool)) (laws_big : Nat → List Int → Option (Bool)) (spec_DrawIns : Nat → List Int → Option (((List (Int × (ByteArray × ByteArray)))))) (h15 : CtrOK Try.prog 15 (con_impl_RunDevice impl_RunDevice)) (h18 : CtrOK Try.prog 18 (con_impl_TotalOf impl_TotalOf)) (h17 : CtrOK Try.prog 17 (con_impl_WithinLimits impl_WithinLimits)) (h14 : CtrOK Try.prog 14 (con_laws_big laws_big)) (h16 : CtrOK Try.prog 16 (con_spec_DrawIns spec_DrawIns)) : CtrOK Try.prog 3 (con_laws_FnLimits (laws_FnLimits_ impl_RunDevice impl_TotalOf impl_WithinLimits laws_big spec_DrawIns )) :=
  fun_ok (c := Try.f3.body.getD .skip) (con_laws_FnLimits (laws_FnLimits_ impl_RunDevice impl_TotalOf impl_WithinLimits laws_big spec_DrawIns )) (gOf [(15, con_impl_RunDevice impl_RunDevice), (18, con_impl_TotalOf impl_TotalOf), (17, con_impl_WithinLimits impl_WithinLimits), (14, con_laws_big laws_big), (16, con_spec_DrawIns spec_DrawIns)]) [] [⟨6, lp_laws_FnLimits_6, laws_FnLimits_L6 impl_RunDevice impl_TotalOf impl_WithinLimits laws_big spec_DrawIns ⟩, ⟨11, lp_laws_FnLimits_11, laws_FnLimits_L11 impl_RunDevice impl_TotalOf impl_WithinLimits laws_big spec_DrawIns ⟩] rfl Try.func3 rfl rfl rfl (gOf_cons h15 (gOf_cons h18 (gOf_cons h17 (gOf_cons h14 (gOf_cons h16 (gOf_nil)))))) (by kernel_rfl) [6, 11] 1 (by kernel_rfl) (by kernel_rfl)
    (fun x => .cons (⟨6, lp_laws_FnLimits_6, laws_FnLimits_L6 impl_RunDevice impl_TotalOf impl_WithinLimits laws_big spec_DrawIns ⟩ : Lab (OKs [.v false [.bool]])) rfl rfl (by kernel_rfl) (by kernel_rfl) (.cons (⟨11, lp_laws_FnLimits_11, laws_FnLimits_L11 impl_RunDevice impl_TotalOf impl_WithinLimits laws_big spec_DrawIns ⟩ : Lab (OKs [.v false [.bool]])) rfl rfl (by kernel_rfl) (by kernel_rfl) (.nil _)))
theorem ok_laws_FnLimits : CtrOK Try.prog 3 (con_laws_FnLimits fun _ => g_laws_FnLimits) := (okp_laws_FnLimits _ _ _ _ _ ok_impl_RunDevice ok_impl_TotalOf ok_impl_WithinLimits ok_laws_big ok_spec_DrawIns).nice e_laws_FnLimits

end Go.Sx.T
