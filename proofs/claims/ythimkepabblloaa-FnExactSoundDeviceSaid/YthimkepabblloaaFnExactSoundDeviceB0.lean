/- Functions of the program as functions of Lean, and that the program keeps to them. -/
import Derived.Test.YthimkepabblloaaFnExactSoundDeviceA0
import Derived.Test.YthimkepabblloaaProg
set_option maxRecDepth 100000
set_option linter.unusedVariables false
set_option linter.unusedSimpArgs false
namespace Go.Proofs
end Go.Proofs
namespace Go.Sx.T
open Go Go.Sx Go.Proofs Go.RowKit
theorem okp_laws_eqTick : CtrOK Try.prog 120 (con_laws_eqTick (laws_eqTick_ )) :=
  fun_ok0 (c := Try.f120.body.getD .skip) (con_laws_eqTick (laws_eqTick_ )) (gOf []) rfl Try.func120 rfl rfl rfl (gOf_nil) (by kernel_rfl) (by kernel_rfl)
theorem ok_laws_eqTick : CtrOK Try.prog 120 (con_laws_eqTick fun _ => g_laws_eqTick) := (okp_laws_eqTick  ).nice e_laws_eqTick

def lp_laws_eqTickS_4 : LP := ⟨[(0, false, [.sl 0]), (1, false, [.sl 1]), (5, false, [.int .i64])], [.ro (.pair (.int .i64) (.pair (.int .i64) (.int .i64))) 0, .ro (.pair (.int .i64) (.pair (.int .i64) (.int .i64))) 0], 2⟩
theorem okp_laws_eqTickS (laws_eqTick : Nat → (Int × Int × Int) × (Int × Int × Int) → Option (Bool)) (h120 : CtrOK Try.prog 120 (con_laws_eqTick laws_eqTick)) : CtrOK Try.prog 67 (con_laws_eqTickS (laws_eqTickS_ laws_eqTick )) :=
  fun_ok (c := Try.f67.body.getD .skip) (con_laws_eqTickS (laws_eqTickS_ laws_eqTick )) (gOf [(120, con_laws_eqTick laws_eqTick)]) [] [⟨4, lp_laws_eqTickS_4, laws_eqTickS_L4 laws_eqTick ⟩] rfl Try.func67 rfl rfl rfl (gOf_cons h120 (gOf_nil)) (by kernel_rfl) [4] 2 (by kernel_rfl) (by kernel_rfl)
    (fun x => .cons (⟨4, lp_laws_eqTickS_4, laws_eqTickS_L4 laws_eqTick ⟩ : Lab (OKs [.v false [.bool]])) rfl rfl (by kernel_rfl) (by kernel_rfl) (.nil _))
theorem ok_laws_eqTickS : CtrOK Try.prog 67 (con_laws_eqTickS fun _ => g_laws_eqTickS) := (okp_laws_eqTickS _ ok_laws_eqTick).nice e_laws_eqTickS

theorem okp_laws_eqMenu : CtrOK Try.prog 27 (con_laws_eqMenu (laws_eqMenu_ )) :=
  fun_ok0 (c := Try.f27.body.getD .skip) (con_laws_eqMenu (laws_eqMenu_ )) (gOf []) rfl Try.func27 rfl rfl rfl (gOf_nil) (by kernel_rfl) (by kernel_rfl)
theorem ok_laws_eqMenu : CtrOK Try.prog 27 (con_laws_eqMenu fun _ => g_laws_eqMenu) := (okp_laws_eqMenu  ).nice e_laws_eqMenu

def lp_laws_eqIntS_4 : LP := ⟨[(0, false, [.sl 0]), (1, false, [.sl 1]), (5, false, [.int .i64])], [.ro (.int .i64) 0, .ro (.int .i64) 0], 2⟩
theorem okp_laws_eqIntS : CtrOK Try.prog 119 (con_laws_eqIntS (laws_eqIntS_ )) :=
  fun_ok (c := Try.f119.body.getD .skip) (con_laws_eqIntS (laws_eqIntS_ )) (gOf []) [] [⟨4, lp_laws_eqIntS_4, laws_eqIntS_L4 ⟩] rfl Try.func119 rfl rfl rfl (gOf_nil) (by kernel_rfl) [4] 2 (by kernel_rfl) (by kernel_rfl)
    (fun x => .cons (⟨4, lp_laws_eqIntS_4, laws_eqIntS_L4 ⟩ : Lab (OKs [.v false [.bool]])) rfl rfl (by kernel_rfl) (by kernel_rfl) (.nil _))
theorem ok_laws_eqIntS : CtrOK Try.prog 119 (con_laws_eqIntS fun _ => g_laws_eqIntS) := (okp_laws_eqIntS  ).nice e_laws_eqIntS

theorem okp_laws_eqGuard (laws_eqIntS : Nat → List Int × List Int → Option (Bool)) (h119 : CtrOK Try.prog 119 (con_laws_eqIntS laws_eqIntS)) : CtrOK Try.prog 66 (con_laws_eqGuard (laws_eqGuard_ laws_eqIntS )) :=
  fun_ok0 (c := Try.f66.body.getD .skip) (con_laws_eqGuard (laws_eqGuard_ laws_eqIntS )) (gOf [(119, con_laws_eqIntS laws_eqIntS)]) rfl Try.func66 rfl rfl rfl (gOf_cons h119 (gOf_nil)) (by kernel_rfl) (by kernel_rfl)
theorem ok_laws_eqGuard : CtrOK Try.prog 66 (con_laws_eqGuard fun _ => g_laws_eqGuard) := (okp_laws_eqGuard _ ok_laws_eqIntS).nice e_laws_eqGuard

theorem okp_laws_eqRate : CtrOK Try.prog 118 (con_laws_eqRate (laws_eqRate_ )) :=
  fun_ok0 (c := Try.f118.body.getD .skip) (con_laws_eqRate (laws_eqRate_ )) (gOf []) rfl Try.func118 rfl rfl rfl (gOf_nil) (by kernel_rfl) (by kernel_rfl)
theorem ok_laws_eqRate : CtrOK Try.prog 118 (con_laws_eqRate fun _ => g_laws_eqRate) := (okp_laws_eqRate  ).nice e_laws_eqRate

theorem okp_laws_eqPump (laws_eqRate : Nat → (Int × Int × Int) × (Int × Int × Int) → Option (Bool)) (h118 : CtrOK Try.prog 118 (con_laws_eqRate laws_eqRate)) : CtrOK Try.prog 65 (con_laws_eqPump (laws_eqPump_ laws_eqRate )) :=
  fun_ok0 (c := Try.f65.body.getD .skip) (con_laws_eqPump (laws_eqPump_ laws_eqRate )) (gOf [(118, con_laws_eqRate laws_eqRate)]) rfl Try.func65 rfl rfl rfl (gOf_cons h118 (gOf_nil)) (by kernel_rfl) (by kernel_rfl)
theorem ok_laws_eqPump : CtrOK Try.prog 65 (con_laws_eqPump fun _ => g_laws_eqPump) := (okp_laws_eqPump _ ok_laws_eqRate).nice e_laws_eqPump

theorem okp_laws_eqDevice (laws_eqGuard : Nat → (List Int × Int) × (List Int × Int) → Option (Bool)) (laws_eqMenu : Nat → (Int × Bool × Int × Int × ByteArray) × (Int × Bool × Int × Int × ByteArray) → Option (Bool)) (laws_eqPump : Nat → (Int × Int × Int × Int × Int × Int × Int × Int) × (Int × Int × Int × Int × Int × Int × Int × Int) → Option (Bool)) (laws_eqTickS : Nat → ((List (Int × (Int × Int)))) × ((List (Int × (Int × Int)))) → Option (Bool)) (h66 : CtrOK Try.prog 66 (con_laws_eqGuard laws_eqGuard)) (h27 : CtrOK Try.prog 27 (con_laws_eqMenu laws_eqMenu)) (h65 : CtrOK Try.prog 65 (con_laws_eqPump laws_eqPump)) (h67 : CtrOK Try.prog 67 (con_laws_eqTickS laws_eqTickS)) : CtrOK Try.prog 17 (con_laws_eqDevice (laws_eqDevice_ laws_eqGuard laws_eqMenu laws_eqPump laws_eqTickS )) :=
  fun_ok0 (c := Try.f17.body.getD .skip) (con_laws_eqDevice (laws_eqDevice_ laws_eqGuard laws_eqMenu laws_eqPump laws_eqTickS )) (gOf [(66, con_laws_eqGuard laws_eqGuard), (27, con_laws_eqMenu laws_eqMenu), (65, con_laws_eqPump laws_eqPump), (67, con_laws_eqTickS laws_eqTickS)]) rfl Try.func17 rfl rfl rfl (gOf_cons h66 (gOf_cons h27 (gOf_cons h65 (gOf_cons h67 (gOf_nil))))) (by kernel_rfl) (by kernel_rfl)
theorem ok_laws_eqDevice : CtrOK Try.prog 17 (con_laws_eqDevice fun _ => g_laws_eqDevice) := (okp_laws_eqDevice _ _ _ _ ok_laws_eqGuard ok_laws_eqMenu ok_laws_eqPump ok_laws_eqTickS).nice e_laws_eqDevice

theorem okp_impl_MenuNew : CtrOK Try.prog 31 (con_impl_MenuNew (impl_MenuNew_ )) :=
  fun_ok0 (c := Try.f31.body.getD .skip) (con_impl_MenuNew (impl_MenuNew_ )) (gOf []) rfl Try.func31 rfl rfl rfl (gOf_nil) (by kernel_rfl) (by kernel_rfl)
theorem ok_impl_MenuNew : CtrOK Try.prog 31 (con_impl_MenuNew fun _ => g_impl_MenuNew) := (okp_impl_MenuNew  ).nice e_impl_MenuNew

theorem okp_impl_within : CtrOK Try.prog 81 (con_impl_within (impl_within_ )) :=
  fun_ok0 (c := Try.f81.body.getD .skip) (con_impl_within (impl_within_ )) (gOf []) rfl Try.func81 rfl rfl rfl (gOf_nil) (by kernel_rfl) (by kernel_rfl)
theorem ok_impl_within : CtrOK Try.prog 81 (con_impl_within fun _ => g_impl_within) := (okp_impl_within  ).nice e_impl_within

theorem okp_spec_l01In : CtrOK Try.prog 88 (con_spec_l01In (spec_l01In_ )) :=
  fun_ok0 (c := Try.f88.body.getD .skip) (con_spec_l01In (spec_l01In_ )) (gOf []) rfl Try.func88 rfl rfl rfl (gOf_nil) (by kernel_rfl) (by kernel_rfl)
theorem ok_spec_l01In : CtrOK Try.prog 88 (con_spec_l01In fun _ => g_spec_l01In) := (okp_spec_l01In  ).nice e_spec_l01In

def lp_impl_MenuOk_2 : LP := ⟨[(1, false, [.ptr 0 0]), (6, false, [.int .i64]), (7, false, [.int .i64])], [.box [.int .i64, .bool, .int .i64, .int .i64, .str] 30], 0⟩
theorem okp_impl_MenuOk (impl_MenuNew : Nat → Unit → Option ((Int × Bool × Int × Int × ByteArray))) (impl_within : Nat → Int × Int × Int → Option (Bool)) (h31 : CtrOK Try.prog 31 (con_impl_MenuNew impl_MenuNew)) (h81 : CtrOK Try.prog 81 (con_impl_within impl_within)) : CtrOK Try.prog 36 (con_impl_MenuOk (impl_MenuOk_ impl_MenuNew impl_within )) :=
  fun_ok (c := Try.f36.body.getD .skip) (con_impl_MenuOk (impl_MenuOk_ impl_MenuNew impl_within )) (gOf [(31, con_impl_MenuNew impl_MenuNew), (81, con_impl_within impl_within)]) [] [⟨2, lp_impl_MenuOk_2, impl_MenuOk_L2 impl_MenuNew impl_within ⟩] rfl Try.func36 rfl rfl rfl (gOf_cons h31 (gOf_cons h81 (gOf_nil))) (by kernel_rfl) [2] 0 (by kernel_rfl) (by kernel_rfl)
    (fun x => .cons (⟨2, lp_impl_MenuOk_2, impl_MenuOk_L2 impl_MenuNew impl_within ⟩ : Lab (OKs [.v false [.bool]])) rfl rfl (by kernel_rfl) (by kernel_rfl) (.nil _))
theorem ok_impl_MenuOk : CtrOK Try.prog 36 (con_impl_MenuOk fun _ => g_impl_MenuOk) := (okp_impl_MenuOk _ _ ok_impl_MenuNew ok_impl_within).nice e_impl_MenuOk

theorem okp_laws_toMenu : CtrOK Try.prog 25 (con_laws_toMenu (laws_toMenu_ )) :=
  fun_ok0 (c := Try.f25.body.getD .skip) (con_laws_toMenu (laws_toMenu_ )) (gOf []) rfl Try.func25 rfl rfl rfl (gOf_nil) (by kernel_rfl) (by kernel_rfl)
theorem ok_laws_toMenu : CtrOK Try.prog 25 (con_laws_toMenu fun _ => g_laws_toMenu) := (okp_laws_toMenu  ).nice e_laws_toMenu

def lp_spec_MenuOk_4 : LP := ⟨[(1, false, [.ptr 0 0]), (3, false, [.int .i64])], [.box [.int .i64, .bool, .int .i64, .int .i64, .str] 30], 0⟩
theorem okp_spec_MenuOk (spec_l01In : Nat → Int × Int × Int → Option (Bool)) (h88 : CtrOK Try.prog 88 (con_spec_l01In spec_l01In)) : CtrOK Try.prog 38 (con_spec_MenuOk (spec_MenuOk_ spec_l01In )) :=
  fun_ok (c := Try.f38.body.getD .skip) (con_spec_MenuOk (spec_MenuOk_ spec_l01In )) (gOf [(88, con_spec_l01In spec_l01In)]) [] [⟨4, lp_spec_MenuOk_4, spec_MenuOk_L4 spec_l01In ⟩] rfl Try.func38 rfl rfl rfl (gOf_cons h88 (gOf_nil)) (by kernel_rfl) [4] 0 (by kernel_rfl) (by kernel_rfl)
    (fun x => .cons (⟨4, lp_spec_MenuOk_4, spec_MenuOk_L4 spec_l01In ⟩ : Lab (OKs [.v false [.bool]])) rfl rfl (by kernel_rfl) (by kernel_rfl) (.nil _))
theorem ok_spec_MenuOk : CtrOK Try.prog 38 (con_spec_MenuOk fun _ => g_spec_MenuOk) := (okp_spec_MenuOk _ ok_spec_l01In).nice e_spec_MenuOk

theorem okp_laws_szMenu : CtrOK Try.prog 23 (con_laws_szMenu (laws_szMenu_ )) :=
  fun_ok0 (c := Try.f23.body.getD .skip) (con_laws_szMenu (laws_szMenu_ )) (gOf []) rfl Try.func23 rfl rfl rfl (gOf_nil) (by kernel_rfl) (by kernel_rfl)
theorem ok_laws_szMenu : CtrOK Try.prog 23 (con_laws_szMenu fun _ => g_laws_szMenu) := (okp_laws_szMenu  ).nice e_laws_szMenu

theorem okp_impl_RateOk (impl_within : Nat → Int × Int × Int → Option (Bool)) (h81 : CtrOK Try.prog 81 (con_impl_within impl_within)) : CtrOK Try.prog 104 (con_impl_RateOk (impl_RateOk_ impl_within )) :=
  fun_ok0 (c := Try.f104.body.getD .skip) (con_impl_RateOk (impl_RateOk_ impl_within )) (gOf [(81, con_impl_within impl_within)]) rfl Try.func104 rfl rfl rfl (gOf_cons h81 (gOf_nil)) (by kernel_rfl) (by kernel_rfl)
theorem ok_impl_RateOk : CtrOK Try.prog 104 (con_impl_RateOk fun _ => g_impl_RateOk) := (okp_impl_RateOk _ ok_impl_within).nice e_impl_RateOk

theorem okp_impl_PumpOk (impl_RateOk : Nat → (Int × Int × Int) → Option (Bool)) (impl_within : Nat → Int × Int × Int → Option (Bool)) (h104 : CtrOK Try.prog 104 (con_impl_RateOk impl_RateOk)) (h81 : CtrOK Try.prog 81 (con_impl_within impl_within)) : CtrOK Try.prog 53 (con_impl_PumpOk (impl_PumpOk_ impl_RateOk impl_within )) :=
  fun_ok0 (c := Try.f53.body.getD .skip) (con_impl_PumpOk (impl_PumpOk_ impl_RateOk impl_within )) (gOf [(104, con_impl_RateOk impl_RateOk), (81, con_impl_within impl_within)]) rfl Try.func53 rfl rfl rfl (gOf_cons h104 (gOf_cons h81 (gOf_nil))) (by kernel_rfl) (by kernel_rfl)
theorem ok_impl_PumpOk : CtrOK Try.prog 53 (con_impl_PumpOk fun _ => g_impl_PumpOk) := (okp_impl_PumpOk _ _ ok_impl_RateOk ok_impl_within).nice e_impl_PumpOk

theorem okp_spec_RateOk (spec_l01In : Nat → Int × Int × Int → Option (Bool)) (h88 : CtrOK Try.prog 88 (con_spec_l01In spec_l01In)) : CtrOK Try.prog 132 (con_spec_RateOk (spec_RateOk_ spec_l01In )) :=
  fun_ok0 (c := Try.f132.body.getD .skip) (con_spec_RateOk (spec_RateOk_ spec_l01In )) (gOf [(88, con_spec_l01In spec_l01In)]) rfl Try.func132 rfl rfl rfl (gOf_cons h88 (gOf_nil)) (by kernel_rfl) (by kernel_rfl)
theorem ok_spec_RateOk : CtrOK Try.prog 132 (con_spec_RateOk fun _ => g_spec_RateOk) := (okp_spec_RateOk _ ok_spec_l01In).nice e_spec_RateOk

theorem okp_spec_PumpOk (spec_RateOk : Nat → (Int × Int × Int) → Option (Bool)) (spec_l01In : Nat → Int × Int × Int → Option (Bool)) (h132 : CtrOK Try.prog 132 (con_spec_RateOk spec_RateOk)) (h88 : CtrOK Try.prog 88 (con_spec_l01In spec_l01In)) : CtrOK Try.prog 93 (con_spec_PumpOk (spec_PumpOk_ spec_RateOk spec_l01In )) :=
  fun_ok0 (c := Try.f93.body.getD .skip) (con_spec_PumpOk (spec_PumpOk_ spec_RateOk spec_l01In )) (gOf [(132, con_spec_RateOk spec_RateOk), (88, con_spec_l01In spec_l01In)]) rfl Try.func93 rfl rfl rfl (gOf_cons h132 (gOf_cons h88 (gOf_nil))) (by kernel_rfl) (by kernel_rfl)
theorem ok_spec_PumpOk : CtrOK Try.prog 93 (con_spec_PumpOk fun _ => g_spec_PumpOk) := (okp_spec_PumpOk _ _ ok_spec_RateOk ok_spec_l01In).nice e_spec_PumpOk

theorem okp_laws_toTick : CtrOK Try.prog 137 (con_laws_toTick (laws_toTick_ )) :=
  fun_ok0 (c := Try.f137.body.getD .skip) (con_laws_toTick (laws_toTick_ )) (gOf []) rfl Try.func137 rfl rfl rfl (gOf_nil) (by kernel_rfl) (by kernel_rfl)
theorem ok_laws_toTick : CtrOK Try.prog 137 (con_laws_toTick fun _ => g_laws_toTick) := (okp_laws_toTick  ).nice e_laws_toTick

def lp_laws_toTickS_3 : LP := ⟨[(0, false, [.sl 0]), (3, false, [.sl 1]), (4, false, [.int .i64])], [.ro (.pair (.int .i64) (.pair (.int .i64) (.int .i64))) 0, .row (.pair (.int .i64) (.pair (.int .i64) (.int .i64))) 96], 1⟩
theorem okp_laws_toTickS (laws_toTick : Nat → (Int × Int × Int) → Option ((Int × Int × Int))) (h137 : CtrOK Try.prog 137 (con_laws_toTick laws_toTick)) : CtrOK Try.prog 97 (con_laws_toTickS (laws_toTickS_ laws_toTick )) :=
  fun_ok (c := Try.f97.body.getD .skip) (con_laws_toTickS (laws_toTickS_ laws_toTick )) (gOf [(137, con_laws_toTick laws_toTick)]) [] [⟨3, lp_laws_toTickS_3, laws_toTickS_L3 laws_toTick ⟩] rfl Try.func97 rfl rfl rfl (gOf_cons h137 (gOf_nil)) (by kernel_rfl) [3] 1 (by kernel_rfl) (by kernel_rfl)
    (fun x => .cons (⟨3, lp_laws_toTickS_3, laws_toTickS_L3 laws_toTick ⟩ : Lab (OKs [.v false [.own (.pair (.int .i64) (.pair (.int .i64) (.int .i64))) 96]])) rfl rfl (by kernel_rfl) (by kernel_rfl) (.nil _))
theorem ok_laws_toTickS : CtrOK Try.prog 97 (con_laws_toTickS fun _ => g_laws_toTickS) := (okp_laws_toTickS _ ok_laws_toTick).nice e_laws_toTickS

def lp_laws_toIntS_3 : LP := ⟨[(0, false, [.sl 0]), (3, false, [.sl 1]), (4, false, [.int .i64])], [.ro (.int .i64) 0, .row (.int .i64) 3], 1⟩
theorem okp_laws_toIntS : CtrOK Try.prog 136 (con_laws_toIntS (laws_toIntS_ )) :=
  fun_ok (c := Try.f136.body.getD .skip) (con_laws_toIntS (laws_toIntS_ )) (gOf []) [] [⟨3, lp_laws_toIntS_3, laws_toIntS_L3 ⟩] rfl Try.func136 rfl rfl rfl (gOf_nil) (by kernel_rfl) [3] 1 (by kernel_rfl) (by kernel_rfl)
    (fun x => .cons (⟨3, lp_laws_toIntS_3, laws_toIntS_L3 ⟩ : Lab (OKs [.v false [.own (.int .i64) 3]])) rfl rfl (by kernel_rfl) (by kernel_rfl) (.nil _))
theorem ok_laws_toIntS : CtrOK Try.prog 136 (con_laws_toIntS fun _ => g_laws_toIntS) := (okp_laws_toIntS  ).nice e_laws_toIntS

theorem okp_laws_toGuard (laws_toIntS : Nat → List Int → Option (List Int)) (h136 : CtrOK Try.prog 136 (con_laws_toIntS laws_toIntS)) : CtrOK Try.prog 96 (con_laws_toGuard (laws_toGuard_ laws_toIntS )) :=
  fun_ok0 (c := Try.f96.body.getD .skip) (con_laws_toGuard (laws_toGuard_ laws_toIntS )) (gOf [(136, con_laws_toIntS laws_toIntS)]) rfl Try.func96 rfl rfl rfl (gOf_cons h136 (gOf_nil)) (by kernel_rfl) (by kernel_rfl)
theorem ok_laws_toGuard : CtrOK Try.prog 96 (con_laws_toGuard fun _ => g_laws_toGuard) := (okp_laws_toGuard _ ok_laws_toIntS).nice e_laws_toGuard

theorem okp_laws_toRate : CtrOK Try.prog 135 (con_laws_toRate (laws_toRate_ )) :=
  fun_ok0 (c := Try.f135.body.getD .skip) (con_laws_toRate (laws_toRate_ )) (gOf []) rfl Try.func135 rfl rfl rfl (gOf_nil) (by kernel_rfl) (by kernel_rfl)
theorem ok_laws_toRate : CtrOK Try.prog 135 (con_laws_toRate fun _ => g_laws_toRate) := (okp_laws_toRate  ).nice e_laws_toRate

theorem okp_laws_toPump (laws_toRate : Nat → (Int × Int × Int) → Option ((Int × Int × Int))) (h135 : CtrOK Try.prog 135 (con_laws_toRate laws_toRate)) : CtrOK Try.prog 95 (con_laws_toPump (laws_toPump_ laws_toRate )) :=
  fun_ok0 (c := Try.f95.body.getD .skip) (con_laws_toPump (laws_toPump_ laws_toRate )) (gOf [(135, con_laws_toRate laws_toRate)]) rfl Try.func95 rfl rfl rfl (gOf_cons h135 (gOf_nil)) (by kernel_rfl) (by kernel_rfl)
theorem ok_laws_toPump : CtrOK Try.prog 95 (con_laws_toPump fun _ => g_laws_toPump) := (okp_laws_toPump _ ok_laws_toRate).nice e_laws_toPump

theorem okp_laws_toDevice (laws_toGuard : Nat → (List Int × Int) → Option ((List Int × Int))) (laws_toMenu : Nat → (Int × Bool × Int × Int × ByteArray) → Option ((Int × Bool × Int × Int × ByteArray))) (laws_toPump : Nat → (Int × Int × Int × Int × Int × Int × Int × Int) → Option ((Int × Int × Int × Int × Int × Int × Int × Int))) (laws_toTickS : Nat → ((List (Int × (Int × Int)))) → Option (((List (Int × (Int × Int)))))) (h96 : CtrOK Try.prog 96 (con_laws_toGuard laws_toGuard)) (h25 : CtrOK Try.prog 25 (con_laws_toMenu laws_toMenu)) (h95 : CtrOK Try.prog 95 (con_laws_toPump laws_toPump)) (h97 : CtrOK Try.prog 97 (con_laws_toTickS laws_toTickS)) : CtrOK Try.prog 48 (con_laws_toDevice (laws_toDevice_ laws_toGuard laws_toMenu laws_toPump laws_toTickS )) :=
  fun_ok0 (c := Try.f48.body.getD .skip) (con_laws_toDevice (laws_toDevice_ laws_toGuard laws_toMenu laws_toPump laws_toTickS )) (gOf [(96, con_laws_toGuard laws_toGuard), (25, con_laws_toMenu laws_toMenu), (95, con_laws_toPump laws_toPump), (97, con_laws_toTickS laws_toTickS)]) rfl Try.func48 rfl rfl rfl (gOf_cons h96 (gOf_cons h25 (gOf_cons h95 (gOf_cons h97 (gOf_nil))))) (by kernel_rfl) (by kernel_rfl)
theorem ok_laws_toDevice : CtrOK Try.prog 48 (con_laws_toDevice fun _ => g_laws_toDevice) := (okp_laws_toDevice _ _ _ _ ok_laws_toGuard ok_laws_toMenu ok_laws_toPump ok_laws_toTickS).nice e_laws_toDevice

theorem okp_impl_isNumber (impl_within : Nat → Int × Int × Int → Option (Bool)) (h81 : CtrOK Try.prog 81 (con_impl_within impl_within)) : CtrOK Try.prog 99 (con_impl_isNumber (impl_isNumber_ impl_within )) :=
  fun_ok0 (c := Try.f99.body.getD .skip) (con_impl_isNumber (impl_isNumber_ impl_within )) (gOf [(81, con_impl_within impl_within)]) rfl Try.func99 rfl rfl rfl (gOf_cons h81 (gOf_nil)) (by kernel_rfl) (by kernel_rfl)
theorem ok_impl_isNumber : CtrOK Try.prog 99 (con_impl_isNumber fun _ => g_impl_isNumber) := (okp_impl_isNumber _ ok_impl_within).nice e_impl_isNumber

theorem okp_impl_SenseOk (impl_within : Nat → Int × Int × Int → Option (Bool)) (h81 : CtrOK Try.prog 81 (con_impl_within impl_within)) : CtrOK Try.prog 139 (con_impl_SenseOk (impl_SenseOk_ impl_within )) :=
  fun_ok0 (c := Try.f139.body.getD .skip) (con_impl_SenseOk (impl_SenseOk_ impl_within )) (gOf [(81, con_impl_within impl_within)]) rfl Try.func139 rfl rfl rfl (gOf_cons h81 (gOf_nil)) (by kernel_rfl) (by kernel_rfl)
theorem ok_impl_SenseOk : CtrOK Try.prog 139 (con_impl_SenseOk fun _ => g_impl_SenseOk) := (okp_impl_SenseOk _ ok_impl_within).nice e_impl_SenseOk

def lp_impl_RoomOf_3 : LP := ⟨[(3, false, [.int .i64]), (7, false, [.sl 0]), (8, false, [.int .i64]), (9, false, [.int .i64])], [.ro (.int .i64) 0], 1⟩
theorem okp_impl_RoomOf : CtrOK Try.prog 138 (con_impl_RoomOf (impl_RoomOf_ )) :=
  fun_ok (c := Try.f138.body.getD .skip) (con_impl_RoomOf (impl_RoomOf_ )) (gOf []) [] [⟨3, lp_impl_RoomOf_3, impl_RoomOf_L3 ⟩] rfl Try.func138 rfl rfl rfl (gOf_nil) (by kernel_rfl) [3] 1 (by kernel_rfl) (by kernel_rfl)
    (fun x => .cons (⟨3, lp_impl_RoomOf_3, impl_RoomOf_L3 ⟩ : Lab (OKs [.v false [.int .i64]])) rfl rfl (by kernel_rfl) (by kernel_rfl) (.nil _))
theorem ok_impl_RoomOf : CtrOK Try.prog 138 (con_impl_RoomOf fun _ => g_impl_RoomOf) := (okp_impl_RoomOf  ).nice e_impl_RoomOf

def lp_impl_GuardOk_2 : LP := ⟨[(1, false, [.ptr 1 0]), (6, false, [.sl 0]), (7, false, [.int .i64]), (8, false, [.int .i64])], [.ro (.int .i64) 0, .box [.sl 0, .int .i64] 28], 1⟩
theorem okp_impl_GuardOk (impl_RoomOf : Nat → (List Int × Int) → Option (Int)) (impl_SenseOk : Nat → Int → Option (Bool)) (impl_within : Nat → Int × Int × Int → Option (Bool)) (h138 : CtrOK Try.prog 138 (con_impl_RoomOf impl_RoomOf)) (h139 : CtrOK Try.prog 139 (con_impl_SenseOk impl_SenseOk)) (h81 : CtrOK Try.prog 81 (con_impl_within impl_within)) : CtrOK Try.prog 98 (con_impl_GuardOk (impl_GuardOk_ impl_RoomOf impl_SenseOk impl_within )) :=
  fun_ok (c := Try.f98.body.getD .skip) (con_impl_GuardOk (impl_GuardOk_ impl_RoomOf impl_SenseOk impl_within )) (gOf [(138, con_impl_RoomOf impl_RoomOf), (139, con_impl_SenseOk impl_SenseOk), (81, con_impl_within impl_within)]) [] [⟨2, lp_impl_GuardOk_2, impl_GuardOk_L2 impl_RoomOf impl_SenseOk impl_within ⟩] rfl Try.func98 rfl rfl rfl (gOf_cons h138 (gOf_cons h139 (gOf_cons h81 (gOf_nil)))) (by kernel_rfl) [2] 1 (by kernel_rfl) (by kernel_rfl)
    (fun x => .cons (⟨2, lp_impl_GuardOk_2, impl_GuardOk_L2 impl_RoomOf impl_SenseOk impl_within ⟩ : Lab (OKs [.v false [.bool]])) rfl rfl (by kernel_rfl) (by kernel_rfl) (.nil _))
theorem ok_impl_GuardOk : CtrOK Try.prog 98 (con_impl_GuardOk fun _ => g_impl_GuardOk) := (okp_impl_GuardOk _ _ _ ok_impl_RoomOf ok_impl_SenseOk ok_impl_within).nice e_impl_GuardOk

theorem okp_impl_DeviceOk (impl_GuardOk : Nat → (List Int × Int) → Option (Bool)) (impl_MenuOk : Nat → (Int × Bool × Int × Int × ByteArray) → Option (Bool)) (impl_PumpOk : Nat → (Int × Int × Int × Int × Int × Int × Int × Int) → Option (Bool)) (impl_isNumber : Nat → Int → Option (Bool)) (h98 : CtrOK Try.prog 98 (con_impl_GuardOk impl_GuardOk)) (h36 : CtrOK Try.prog 36 (con_impl_MenuOk impl_MenuOk)) (h53 : CtrOK Try.prog 53 (con_impl_PumpOk impl_PumpOk)) (h99 : CtrOK Try.prog 99 (con_impl_isNumber impl_isNumber)) : CtrOK Try.prog 49 (con_impl_DeviceOk (impl_DeviceOk_ impl_GuardOk impl_MenuOk impl_PumpOk impl_isNumber )) :=
  fun_ok0 (c := Try.f49.body.getD .skip) (con_impl_DeviceOk (impl_DeviceOk_ impl_GuardOk impl_MenuOk impl_PumpOk impl_isNumber )) (gOf [(98, con_impl_GuardOk impl_GuardOk), (36, con_impl_MenuOk impl_MenuOk), (53, con_impl_PumpOk impl_PumpOk), (99, con_impl_isNumber impl_isNumber)]) rfl Try.func49 rfl rfl rfl (gOf_cons h98 (gOf_cons h36 (gOf_cons h53 (gOf_cons h99 (gOf_nil))))) (by kernel_rfl) (by kernel_rfl)
theorem ok_impl_DeviceOk : CtrOK Try.prog 49 (con_impl_DeviceOk fun _ => g_impl_DeviceOk) := (okp_impl_DeviceOk _ _ _ _ ok_impl_GuardOk ok_impl_MenuOk ok_impl_PumpOk ok_impl_isNumber).nice e_impl_DeviceOk

def lp_spec_l16Sum_3 : LP := ⟨[(0, false, [.sl 0]), (3, false, [.int .i64]), (4, false, [.int .i64])], [.ro (.int .i64) 0], 1⟩
theorem okp_spec_l16Sum : CtrOK Try.prog 134 (con_spec_l16Sum (spec_l16Sum_ )) :=
  fun_ok (c := Try.f134.body.getD .skip) (con_spec_l16Sum (spec_l16Sum_ )) (gOf []) [] [⟨3, lp_spec_l16Sum_3, spec_l16Sum_L3 ⟩] rfl Try.func134 rfl rfl rfl (gOf_nil) (by kernel_rfl) [3] 1 (by kernel_rfl) (by kernel_rfl)
    (fun x => .cons (⟨3, lp_spec_l16Sum_3, spec_l16Sum_L3 ⟩ : Lab (OKs [.v false [.int .i64]])) rfl rfl (by kernel_rfl) (by kernel_rfl) (.nil _))
theorem ok_spec_l16Sum : CtrOK Try.prog 134 (con_spec_l16Sum fun _ => g_spec_l16Sum) := (okp_spec_l16Sum  ).nice e_spec_l16Sum

theorem okp_spec_SenseOk (spec_l01In : Nat → Int × Int × Int → Option (Bool)) (h88 : CtrOK Try.prog 88 (con_spec_l01In spec_l01In)) : CtrOK Try.prog 133 (con_spec_SenseOk (spec_SenseOk_ spec_l01In )) :=
  fun_ok0 (c := Try.f133.body.getD .skip) (con_spec_SenseOk (spec_SenseOk_ spec_l01In )) (gOf [(88, con_spec_l01In spec_l01In)]) rfl Try.func133 rfl rfl rfl (gOf_cons h88 (gOf_nil)) (by kernel_rfl) (by kernel_rfl)
theorem ok_spec_SenseOk : CtrOK Try.prog 133 (con_spec_SenseOk fun _ => g_spec_SenseOk) := (okp_spec_SenseOk _ ok_spec_l01In).nice e_spec_SenseOk

def lp_spec_GuardOk_4 : LP := ⟨[(1, false, [.ptr 1 0]), (3, false, [.int .i64])], [.ro (.int .i64) 0, .box [.sl 0, .int .i64] 28], 1⟩
theorem okp_spec_GuardOk (spec_SenseOk : Nat → Int → Option (Bool)) (spec_l01In : Nat → Int × Int × Int → Option (Bool)) (spec_l16Sum : Nat → List Int → Option (Int)) (h133 : CtrOK Try.prog 133 (con_spec_SenseOk spec_SenseOk)) (h88 : CtrOK Try.prog 88 (con_spec_l01In spec_l01In)) (h134 : CtrOK Try.prog 134 (con_spec_l16Sum spec_l16Sum)) : CtrOK Try.prog 94 (con_spec_GuardOk (spec_GuardOk_ spec_SenseOk spec_l01In spec_l16Sum )) :=
  fun_ok (c := Try.f94.body.getD .skip) (con_spec_GuardOk (spec_GuardOk_ spec_SenseOk spec_l01In spec_l16Sum )) (gOf [(133, con_spec_SenseOk spec_SenseOk), (88, con_spec_l01In spec_l01In), (134, con_spec_l16Sum spec_l16Sum)]) [] [⟨4, lp_spec_GuardOk_4, spec_GuardOk_L4 spec_SenseOk spec_l01In spec_l16Sum ⟩] rfl Try.func94 rfl rfl rfl (gOf_cons h133 (gOf_cons h88 (gOf_cons h134 (gOf_nil)))) (by kernel_rfl) [4] 1 (by kernel_rfl) (by kernel_rfl)
    (fun x => .cons (⟨4, lp_spec_GuardOk_4, spec_GuardOk_L4 spec_SenseOk spec_l01In spec_l16Sum ⟩ : Lab (OKs [.v false [.bool]])) rfl rfl (by kernel_rfl) (by kernel_rfl) (.nil _))
theorem ok_spec_GuardOk : CtrOK Try.prog 94 (con_spec_GuardOk fun _ => g_spec_GuardOk) := (okp_spec_GuardOk _ _ _ ok_spec_SenseOk ok_spec_l01In ok_spec_l16Sum).nice e_spec_GuardOk

theorem okp_spec_DeviceOk (spec_GuardOk : Nat → (List Int × Int) → Option (Bool)) (spec_MenuOk : Nat → (Int × Bool × Int × Int × ByteArray) → Option (Bool)) (spec_PumpOk : Nat → (Int × Int × Int × Int × Int × Int × Int × Int) → Option (Bool)) (spec_l01In : Nat → Int × Int × Int → Option (Bool)) (h94 : CtrOK Try.prog 94 (con_spec_GuardOk spec_GuardOk)) (h38 : CtrOK Try.prog 38 (con_spec_MenuOk spec_MenuOk)) (h93 : CtrOK Try.prog 93 (con_spec_PumpOk spec_PumpOk)) (h88 : CtrOK Try.prog 88 (con_spec_l01In spec_l01In)) : CtrOK Try.prog 47 (con_spec_DeviceOk (spec_DeviceOk_ spec_GuardOk spec_MenuOk spec_PumpOk spec_l01In )) :=
  fun_ok0 (c := Try.f47.body.getD .skip) (con_spec_DeviceOk (spec_DeviceOk_ spec_GuardOk spec_MenuOk spec_PumpOk spec_l01In )) (gOf [(94, con_spec_GuardOk spec_GuardOk), (38, con_spec_MenuOk spec_MenuOk), (93, con_spec_PumpOk spec_PumpOk), (88, con_spec_l01In spec_l01In)]) rfl Try.func47 rfl rfl rfl (gOf_cons h94 (gOf_cons h38 (gOf_cons h93 (gOf_cons h88 (gOf_nil))))) (by kernel_rfl) (by kernel_rfl)
theorem ok_spec_DeviceOk : CtrOK Try.prog 47 (con_spec_DeviceOk fun _ => g_spec_DeviceOk) := (okp_spec_DeviceOk _ _ _ _ ok_spec_GuardOk ok_spec_MenuOk ok_spec_PumpOk ok_spec_l01In).nice e_spec_DeviceOk

theorem okp_laws_szTickS : CtrOK Try.prog 92 (con_laws_szTickS (laws_szTickS_ )) :=
  fun_ok0 (c := Try.f92.body.getD .skip) (con_laws_szTickS (laws_szTickS_ )) (gOf []) rfl Try.func92 rfl rfl rfl (gOf_nil) (by kernel_rfl) (by kernel_rfl)
theorem ok_laws_szTickS : CtrOK Try.prog 92 (con_laws_szTickS fun _ => g_laws_szTickS) := (okp_laws_szTickS  ).nice e_laws_szTickS

theorem okp_laws_szIntS : CtrOK Try.prog 131 (con_laws_szIntS (laws_szIntS_ )) :=
  fun_ok0 (c := Try.f131.body.getD .skip) (con_laws_szIntS (laws_szIntS_ )) (gOf []) rfl Try.func131 rfl rfl rfl (gOf_nil) (by kernel_rfl) (by kernel_rfl)
theorem ok_laws_szIntS : CtrOK Try.prog 131 (con_laws_szIntS fun _ => g_laws_szIntS) := (okp_laws_szIntS  ).nice e_laws_szIntS

theorem okp_laws_szGuard (laws_szIntS : Nat → List Int × Int → Option (Int)) (h131 : CtrOK Try.prog 131 (con_laws_szIntS laws_szIntS)) : CtrOK Try.prog 91 (con_laws_szGuard (laws_szGuard_ laws_szIntS )) :=
  fun_ok0 (c := Try.f91.body.getD .skip) (con_laws_szGuard (laws_szGuard_ laws_szIntS )) (gOf [(131, con_laws_szIntS laws_szIntS)]) rfl Try.func91 rfl rfl rfl (gOf_cons h131 (gOf_nil)) (by kernel_rfl) (by kernel_rfl)
theorem ok_laws_szGuard : CtrOK Try.prog 91 (con_laws_szGuard fun _ => g_laws_szGuard) := (okp_laws_szGuard _ ok_laws_szIntS).nice e_laws_szGuard

theorem okp_laws_szDevice (laws_szGuard : Nat → (List Int × Int) × Int → Option (Int)) (laws_szMenu : Nat → (Int × Bool × Int × Int × ByteArray) × Int → Option (Int)) (laws_szTickS : Nat → ((List (Int × (Int × Int)))) × Int → Option (Int)) (h91 : CtrOK Try.prog 91 (con_laws_szGuard laws_szGuard)) (h23 : CtrOK Try.prog 23 (con_laws_szMenu laws_szMenu)) (h92 : CtrOK Try.prog 92 (con_laws_szTickS laws_szTickS)) : CtrOK Try.prog 46 (con_laws_szDevice (laws_szDevice_ laws_szGuard laws_szMenu laws_szTickS )) :=
  fun_ok0 (c := Try.f46.body.getD .skip) (con_laws_szDevice (laws_szDevice_ laws_szGuard laws_szMenu laws_szTickS )) (gOf [(91, con_laws_szGuard laws_szGuard), (23, con_laws_szMenu laws_szMenu), (92, con_laws_szTickS laws_szTickS)]) rfl Try.func46 rfl rfl rfl (gOf_cons h91 (gOf_cons h23 (gOf_cons h92 (gOf_nil)))) (by kernel_rfl) (by kernel_rfl)
theorem ok_laws_szDevice : CtrOK Try.prog 46 (con_laws_szDevice fun _ => g_laws_szDevice) := (okp_laws_szDevice _ _ _ ok_laws_szGuard ok_laws_szMenu ok_laws_szTickS).nice e_laws_szDevice

theorem okp_impl_bounded : CtrOK Try.prog 157 (con_impl_bounded (impl_bounded_ )) :=
  fun_ok0 (c := Try.f157.body.getD .skip) (con_impl_bounded (impl_bounded_ )) (gOf []) rfl Try.func157 rfl rfl rfl (gOf_nil) (by kernel_rfl) (by kernel_rfl)
theorem ok_impl_bounded : CtrOK Try.prog 157 (con_impl_bounded fun _ => g_impl_bounded) := (okp_impl_bounded  ).nice e_impl_bounded

theorem okp_impl_AddSat (impl_bounded : Nat → Int → Option (Int)) (h157 : CtrOK Try.prog 157 (con_impl_bounded impl_bounded)) : CtrOK Try.prog 146 (con_impl_AddSat (impl_AddSat_ impl_bounded )) :=
  fun_ok0 (c := Try.f146.body.getD .skip) (con_impl_AddSat (impl_AddSat_ impl_bounded )) (gOf [(157, con_impl_bounded impl_bounded)]) rfl Try.func146 rfl rfl rfl (gOf_cons h157 (gOf_nil)) (by kernel_rfl) (by kernel_rfl)
theorem ok_impl_AddSat : CtrOK Try.prog 146 (con_impl_AddSat fun _ => g_impl_AddSat) := (okp_impl_AddSat _ ok_impl_bounded).nice e_impl_AddSat

def lp_impl_TotalOf_3 : LP := ⟨[(3, false, [.int .i64]), (6, false, [.sl 0]), (7, false, [.int .i64]), (8, false, [.int .i64])], [.ro (.pair (.int .i64) (.pair (.int .i64) (.int .i64))) 0], 1⟩
theorem okp_impl_TotalOf (impl_AddSat : Nat → Int × Int → Option (Int)) (h146 : CtrOK Try.prog 146 (con_impl_AddSat impl_AddSat)) : CtrOK Try.prog 115 (con_impl_TotalOf (impl_TotalOf_ impl_AddSat )) :=
  fun_ok (c := Try.f115.body.getD .skip) (con_impl_TotalOf (impl_TotalOf_ impl_AddSat )) (gOf [(146, con_impl_AddSat impl_AddSat)]) [] [⟨3, lp_impl_TotalOf_3, impl_TotalOf_L3 impl_AddSat ⟩] rfl Try.func115 rfl rfl rfl (gOf_cons h146 (gOf_nil)) (by kernel_rfl) [3] 1 (by kernel_rfl) (by kernel_rfl)
    (fun x => .cons (⟨3, lp_impl_TotalOf_3, impl_TotalOf_L3 impl_AddSat ⟩ : Lab (OKs [.v false [.int .i64]])) rfl rfl (by kernel_rfl) (by kernel_rfl) (.nil _))
theorem ok_impl_TotalOf : CtrOK Try.prog 115 (con_impl_TotalOf fun _ => g_impl_TotalOf) := (okp_impl_TotalOf _ ok_impl_AddSat).nice e_impl_TotalOf

def lp_impl_StopsOnAlarm_2 : LP := ⟨[(5, false, [.sl 0]), (6, false, [.int .i64]), (7, false, [.int .i64])], [.ro (.pair (.int .i64) (.pair (.int .i64) (.int .i64))) 0], 1⟩
theorem okp_impl_StopsOnAlarm : CtrOK Try.prog 114 (con_impl_StopsOnAlarm (impl_StopsOnAlarm_ )) :=
  fun_ok (c := Try.f114.body.getD .skip) (con_impl_StopsOnAlarm (impl_StopsOnAlarm_ )) (gOf []) [] [⟨2, lp_impl_StopsOnAlarm_2, impl_StopsOnAlarm_L2 ⟩] rfl Try.func114 rfl rfl rfl (gOf_nil) (by kernel_rfl) [2] 1 (by kernel_rfl) (by kernel_rfl)
    (fun x => .cons (⟨2, lp_impl_StopsOnAlarm_2, impl_StopsOnAlarm_L2 ⟩ : Lab (OKs [.v false [.bool]])) rfl rfl (by kernel_rfl) (by kernel_rfl) (.nil _))
theorem ok_impl_StopsOnAlarm : CtrOK Try.prog 114 (con_impl_StopsOnAlarm fun _ => g_impl_StopsOnAlarm) := (okp_impl_StopsOnAlarm  ).nice e_impl_StopsOnAlarm

def lp_impl_WithinLimits_2 : LP := ⟨[(0, false, [.sl 0]), (8, false, [.int .i64]), (9, false, [.int .i64])], [.ro (.pair (.int .i64) (.pair (.int .i64) (.int .i64))) 0], 1⟩
def lp_impl_WithinLimits_6 : LP := ⟨[(0, false, [.sl 0]), (4, false, [.int .i64]), (8, false, [.int .i64]), (9, false, [.int .i64]), (19, false, [.sl 1]), (20, false, [.int .i64]), (21, false, [.int .i64])], [.ro (.pair (.int .i64) (.pair (.int .i64) (.int .i64))) 0, .ro (.pair (.int .i64) (.pair (.int .i64) (.int .i64))) 0], 1⟩
theorem okp_impl_WithinLimits (impl_AddSat : Nat → Int × Int → Option (Int)) (h146 : CtrOK Try.prog 146 (con_impl_AddSat impl_AddSat)) : CtrOK Try.prog 113 (con_impl_WithinLimits (impl_WithinLimits_ impl_AddSat )) :=
  fun_ok (c := Try.f113.body.getD .skip) (con_impl_WithinLimits (impl_WithinLimits_ impl_AddSat )) (gOf [(146, con_impl_AddSat impl_AddSat)]) [] [⟨2, lp_impl_WithinLimits_2, impl_WithinLimits_L2 impl_AddSat ⟩, ⟨6, lp_impl_WithinLimits_6, impl_WithinLimits_L6 impl_AddSat ⟩] rfl Try.func113 rfl rfl rfl (gOf_cons h146 (gOf_nil)) (by kernel_rfl) [2, 6] 1 (by kernel_rfl) (by kernel_rfl)
    (fun x => .cons (⟨2, lp_impl_WithinLimits_2, impl_WithinLimits_L2 impl_AddSat ⟩ : Lab (OKs [.v false [.bool]])) rfl rfl (by kernel_rfl) (by kernel_rfl) (.cons (⟨6, lp_impl_WithinLimits_6, impl_WithinLimits_L6 impl_AddSat ⟩ : Lab (OKs [.v false [.bool]])) rfl rfl (by kernel_rfl) (by kernel_rfl) (.nil _)))
theorem ok_impl_WithinLimits : CtrOK Try.prog 113 (con_impl_WithinLimits fun _ => g_impl_WithinLimits) := (okp_impl_WithinLimits _ ok_impl_AddSat).nice e_impl_WithinLimits

theorem okp_impl_SoundDevice (impl_DeviceOk : Nat → (Int × Int × Int × Int × Int × Int × Int × Int × List Int × Int × Int × Bool × Int × Int × ByteArray × (List (Int × (Int × Int))) × Int) → Option (Bool)) (impl_StopsOnAlarm : Nat → ((List (Int × (Int × Int)))) → Option (Bool)) (impl_TotalOf : Nat → ((List (Int × (Int × Int)))) → Option (Int)) (impl_WithinLimits : Nat → ((List (Int × (Int × Int)))) → Option (Bool)) (h49 : CtrOK Try.prog 49 (con_impl_DeviceOk impl_DeviceOk)) (h114 : CtrOK Try.prog 114 (con_impl_StopsOnAlarm impl_StopsOnAlarm)) (h115 : CtrOK Try.prog 115 (con_impl_TotalOf impl_TotalOf)) (h113 : CtrOK Try.prog 113 (con_impl_WithinLimits impl_WithinLimits)) : CtrOK Try.prog 62 (con_impl_SoundDevice (impl_SoundDevice_ impl_DeviceOk impl_StopsOnAlarm impl_TotalOf impl_WithinLimits )) :=
  fun_ok0 (c := Try.f62.body.getD .skip) (con_impl_SoundDevice (impl_SoundDevice_ impl_DeviceOk impl_StopsOnAlarm impl_TotalOf impl_WithinLimits )) (gOf [(49, con_impl_DeviceOk impl_DeviceOk), (114, con_impl_StopsOnAlarm impl_StopsOnAlarm), (115, con_impl_TotalOf impl_TotalOf), (113, con_impl_WithinLimits impl_WithinLimits)]) rfl Try.func62 rfl rfl rfl (gOf_cons h49 (gOf_cons h114 (gOf_cons h115 (gOf_cons h113 (gOf_nil))))) (by kernel_rfl) (by kernel_rfl)
theorem ok_impl_SoundDevice : CtrOK Try.prog 62 (con_impl_SoundDevice fun _ => g_impl_SoundDevice) := (okp_impl_SoundDevice _ _ _ _ ok_impl_DeviceOk ok_impl_StopsOnAlarm ok_impl_TotalOf ok_impl_WithinLimits).nice e_impl_SoundDevice

theorem okp_spec_l03Into : CtrOK Try.prog 156 (con_spec_l03Into (spec_l03Into_ )) :=
  fun_ok0 (c := Try.f156.body.getD .skip) (con_spec_l03Into (spec_l03Into_ )) (gOf []) rfl Try.func156 rfl rfl rfl (gOf_nil) (by kernel_rfl) (by kernel_rfl)
theorem ok_spec_l03Into : CtrOK Try.prog 156 (con_spec_l03Into fun _ => g_spec_l03Into) := (okp_spec_l03Into  ).nice e_spec_l03Into

theorem okp_spec_AddSat (spec_l03Into : Nat → Int → Option (Int)) (h156 : CtrOK Try.prog 156 (con_spec_l03Into spec_l03Into)) : CtrOK Try.prog 145 (con_spec_AddSat (spec_AddSat_ spec_l03Into )) :=
  fun_ok0 (c := Try.f145.body.getD .skip) (con_spec_AddSat (spec_AddSat_ spec_l03Into )) (gOf [(156, con_spec_l03Into spec_l03Into)]) rfl Try.func145 rfl rfl rfl (gOf_cons h156 (gOf_nil)) (by kernel_rfl) (by kernel_rfl)
theorem ok_spec_AddSat : CtrOK Try.prog 145 (con_spec_AddSat fun _ => g_spec_AddSat) := (okp_spec_AddSat _ ok_spec_l03Into).nice e_spec_AddSat

def lp_spec_TotalOf_3 : LP := ⟨[(0, false, [.sl 0]), (3, false, [.int .i64]), (4, false, [.int .i64])], [.ro (.pair (.int .i64) (.pair (.int .i64) (.int .i64))) 0], 1⟩
theorem okp_spec_TotalOf (spec_AddSat : Nat → Int × Int → Option (Int)) (h145 : CtrOK Try.prog 145 (con_spec_AddSat spec_AddSat)) : CtrOK Try.prog 112 (con_spec_TotalOf (spec_TotalOf_ spec_AddSat )) :=
  fun_ok (c := Try.f112.body.getD .skip) (con_spec_TotalOf (spec_TotalOf_ spec_AddSat )) (gOf [(145, con_spec_AddSat spec_AddSat)]) [] [⟨3, lp_spec_TotalOf_3, spec_TotalOf_L3 spec_AddSat ⟩] rfl Try.func112 rfl rfl rfl (gOf_cons h145 (gOf_nil)) (by kernel_rfl) [3] 1 (by kernel_rfl) (by kernel_rfl)
    (fun x => .cons (⟨3, lp_spec_TotalOf_3, spec_TotalOf_L3 spec_AddSat ⟩ : Lab (OKs [.v false [.int .i64]])) rfl rfl (by kernel_rfl) (by kernel_rfl) (.nil _))
theorem ok_spec_TotalOf : CtrOK Try.prog 112 (con_spec_TotalOf fun _ => g_spec_TotalOf) := (okp_spec_TotalOf _ ok_spec_AddSat).nice e_spec_TotalOf

def lp_spec_StopsOnAlarm_2 : LP := ⟨[(0, false, [.sl 0]), (3, false, [.int .i64])], [.ro (.pair (.int .i64) (.pair (.int .i64) (.int .i64))) 0], 1⟩
theorem okp_spec_StopsOnAlarm : CtrOK Try.prog 111 (con_spec_StopsOnAlarm (spec_StopsOnAlarm_ )) :=
  fun_ok (c := Try.f111.body.getD .skip) (con_spec_StopsOnAlarm (spec_StopsOnAlarm_ )) (gOf []) [] [⟨2, lp_spec_StopsOnAlarm_2, spec_StopsOnAlarm_L2 ⟩] rfl Try.func111 rfl rfl rfl (gOf_nil) (by kernel_rfl) [2] 1 (by kernel_rfl) (by kernel_rfl)
    (fun x => .cons (⟨2, lp_spec_StopsOnAlarm_2, spec_StopsOnAlarm_L2 ⟩ : Lab (OKs [.v false [.bool]])) rfl rfl (by kernel_rfl) (by kernel_rfl) (.nil _))
theorem ok_spec_StopsOnAlarm : CtrOK Try.prog 111 (con_spec_StopsOnAlarm fun _ => g_spec_StopsOnAlarm) := (okp_spec_StopsOnAlarm  ).nice e_spec_StopsOnAlarm

def lp_spec_WithinLimits_2 : LP := ⟨[(0, false, [.sl 0]), (3, false, [.int .i64])], [.ro (.pair (.int .i64) (.pair (.int .i64) (.int .i64))) 0], 1⟩
def lp_spec_WithinLimits_6 : LP := ⟨[(0, false, [.sl 0]), (3, false, [.int .i64]), (4, false, [.int .i64]), (5, false, [.int .i64])], [.ro (.pair (.int .i64) (.pair (.int .i64) (.int .i64))) 0], 1⟩
theorem okp_spec_WithinLimits (spec_AddSat : Nat → Int × Int → Option (Int)) (h145 : CtrOK Try.prog 145 (con_spec_AddSat spec_AddSat)) : CtrOK Try.prog 110 (con_spec_WithinLimits (spec_WithinLimits_ spec_AddSat )) :=
  fun_ok (c := Try.f110.body.getD .skip) (con_spec_WithinLimits (spec_WithinLimits_ spec_AddSat )) (gOf [(145, con_spec_AddSat spec_AddSat)]) [] [⟨2, lp_spec_WithinLimits_2, spec_WithinLimits_L2 spec_AddSat ⟩, ⟨6, lp_spec_WithinLimits_6, spec_WithinLimits_L6 spec_AddSat ⟩] rfl Try.func110 rfl rfl rfl (gOf_cons h145 (gOf_nil)) (by kernel_rfl) [2, 6] 1 (by kernel_rfl) (by kernel_rfl)
    (fun x => .cons (⟨2, lp_spec_WithinLimits_2, spec_WithinLimits_L2 spec_AddSat ⟩ : Lab (OKs [.v false [.bool]])) rfl rfl (by kernel_rfl) (by kernel_rfl) (.cons (⟨6, lp_spec_WithinLimits_6, spec_WithinLimits_L6 spec_AddSat ⟩ : Lab (OKs [.v false [.bool]])) rfl rfl (by kernel_rfl) (by kernel_rfl) (.nil _)))
theorem ok_spec_WithinLimits : CtrOK Try.prog 110 (con_spec_WithinLimits fun _ => g_spec_WithinLimits) := (okp_spec_WithinLimits _ ok_spec_AddSat).nice e_spec_WithinLimits

theorem okp_spec_SoundDevice (spec_DeviceOk : Nat → (Int × Int × Int × Int × Int × Int × Int × Int × List Int × Int × Int × Bool × Int × Int × ByteArray × (List (Int × (Int × Int))) × Int) → Option (Bool)) (spec_StopsOnAlarm : Nat → ((List (Int × (Int × Int)))) → Option (Bool)) (spec_TotalOf : Nat → ((List (Int × (Int × Int)))) → Option (Int)) (spec_WithinLimits : Nat → ((List (Int × (Int × Int)))) → Option (Bool)) (h47 : CtrOK Try.prog 47 (con_spec_DeviceOk spec_DeviceOk)) (h111 : CtrOK Try.prog 111 (con_spec_StopsOnAlarm spec_StopsOnAlarm)) (h112 : CtrOK Try.prog 112 (con_spec_TotalOf spec_TotalOf)) (h110 : CtrOK Try.prog 110 (con_spec_WithinLimits spec_WithinLimits)) : CtrOK Try.prog 61 (con_spec_SoundDevice (spec_SoundDevice_ spec_DeviceOk spec_StopsOnAlarm spec_TotalOf spec_WithinLimits )) :=
  fun_ok0 (c := Try.f61.body.getD .skip) (con_spec_SoundDevice (spec_SoundDevice_ spec_DeviceOk spec_StopsOnAlarm spec_TotalOf spec_WithinLimits )) (gOf [(47, con_spec_DeviceOk spec_DeviceOk), (111, con_spec_StopsOnAlarm spec_StopsOnAlarm), (112, con_spec_TotalOf spec_TotalOf), (110, con_spec_WithinLimits spec_WithinLimits)]) rfl Try.func61 rfl rfl rfl (gOf_cons h47 (gOf_cons h111 (gOf_cons h112 (gOf_cons h110 (gOf_nil))))) (by kernel_rfl) (by kernel_rfl)
theorem ok_spec_SoundDevice : CtrOK Try.prog 61 (con_spec_SoundDevice fun _ => g_spec_SoundDevice) := (okp_spec_SoundDevice _ _ _ _ ok_spec_DeviceOk ok_spec_StopsOnAlarm ok_spec_TotalOf ok_spec_WithinLimits).nice e_spec_SoundDevice

theorem okp_laws_FnExactSoundDevice (impl_SoundDevice : Nat → (Int × Int × Int × Int × Int × Int × Int × Int × List Int × Int × Int × Bool × Int × Int × ByteArray × (List (Int × (Int × Int))) × Int) → Option (Bool)) (laws_eqDevice : Nat → (Int × Int × Int × Int × Int × Int × Int × Int × List Int × Int × Int × Bool × Int × Int × ByteArray × (List (Int × (Int × Int))) × Int) × (Int × Int × Int × Int × Int × Int × Int × Int × List Int × Int × Int × Bool × Int × Int × ByteArray × (List (Int × (Int × Int))) × Int) → Option (Bool)) (laws_szDevice : Nat → (Int × Int × Int × Int × Int × Int × Int × Int × List Int × Int × Int × Bool × Int × Int × ByteArray × (List (Int × (Int × Int))) × Int) × Int → Option (Int)) (laws_toDevice : Nat → (Int × Int × Int × Int × Int × Int × Int × Int × List Int × Int × Int × Bool × Int × Int × ByteArray × (List (Int × (Int × Int))) × Int) → Option ((Int × Int × Int × Int × Int × Int × Int × Int × List Int × Int × Int × Bool × Int × Int × ByteArray × (List (Int × (Int × Int))) × Int))) (spec_SoundDevice : Nat → (Int × Int × Int × Int × Int × Int × Int × Int × List Int × Int × Int × Bool × Int × Int × ByteArray × (List (Int × (Int × Int))) × Int) → Option (Bool)) (h62 : CtrOK Try.prog 62 (con_impl_SoundDevice impl_SoundDevice)) (h17 : CtrOK Try.prog 17 (con_laws_eqDevice laws_eqDevice)) (h46 : CtrOK Try.prog 46 (con_laws_szDevice laws_szDevice)) (h48 : CtrOK Try.prog 48 (con_laws_toDevice laws_toDevice)) (h61 : CtrOK Try.prog 61 (con_spec_SoundDevice spec_SoundDevice)) : CtrOK Try.prog 13 (con_laws_FnExactSoundDevice (laws_FnExactSoundDevice_ impl_SoundDevice laws_eqDevice laws_szDevice laws_toDevice spec_SoundDevice )) :=
  fun_ok0 (c := Try.f13.body.getD .skip) (con_laws_FnExactSoundDevice (laws_FnExactSoundDevice_ impl_SoundDevice laws_eqDevice laws_szDevice laws_toDevice spec_SoundDevice )) (gOf [(62, con_impl_SoundDevice impl_SoundDevice), (17, con_laws_eqDevice laws_eqDevice), (46, con_laws_szDevice laws_szDevice), (48, con_laws_toDevice laws_toDevice), (61, con_spec_SoundDevice spec_SoundDevice)]) rfl Try.func13 rfl rfl rfl (gOf_cons h62 (gOf_cons h17 (gOf_cons h46 (gOf_cons h48 (gOf_cons h61 (gOf_nil)))))) (by kernel_rfl) (by kernel_rfl)
theorem ok_laws_FnExactSoundDevice : CtrOK Try.prog 13 (con_laws_FnExactSoundDevice fun _ => g_laws_FnExactSoundDevice) := (okp_laws_FnExactSoundDevice _ _ _ _ _ ok_impl_SoundDevice ok_laws_eqDevice ok_laws_szDevice ok_laws_toDevice ok_spec_SoundDevice).nice e_laws_FnExactSoundDevice

end Go.Sx.T
