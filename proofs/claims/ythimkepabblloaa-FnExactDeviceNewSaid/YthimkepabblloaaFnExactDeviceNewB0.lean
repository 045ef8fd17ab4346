/- Functions of the program as functions of Lean, and that the program keeps to them. -/
import Derived.Test.YthimkepabblloaaFnExactDeviceNewA0
import Derived.Test.YthimkepabblloaaProg
set_option maxRecDepth 100000
set_option linter.unusedVariables false
set_option linter.unusedSimpArgs false
namespace Go.Proofs
end Go.Proofs
namespace Go.Sx.T
open Go Go.Sx Go.Proofs Go.RowKit
def lp_laws_heldTickS_2 : LP := ⟨[(0, false, [.sl 0]), (1, false, [.int .i64]), (5, false, [.int .i64])], [.ro (.pair (.int .i64) (.pair (.int .i64) (.int .i64))) 0], 1⟩
theorem okp_laws_heldTickS : CtrOK Try.prog 71 (con_laws_heldTickS (laws_heldTickS_ )) :=
  fun_ok (c := Try.f71.body.getD .skip) (con_laws_heldTickS (laws_heldTickS_ )) (gOf []) [] [⟨2, lp_laws_heldTickS_2, laws_heldTickS_L2 ⟩] rfl Try.func71 rfl rfl rfl (gOf_nil) (by kernel_rfl) [2] 1 (by kernel_rfl) (by kernel_rfl)
    (fun x => .cons (⟨2, lp_laws_heldTickS_2, laws_heldTickS_L2 ⟩ : Lab (OKs [.v false [.int .i64]])) rfl rfl (by kernel_rfl) (by kernel_rfl) (.nil _))
theorem ok_laws_heldTickS : CtrOK Try.prog 71 (con_laws_heldTickS fun _ => g_laws_heldTickS) := (okp_laws_heldTickS  ).nice e_laws_heldTickS

def lp_laws_heldIntS_2 : LP := ⟨[(0, false, [.sl 0]), (1, false, [.int .i64]), (5, false, [.int .i64])], [.ro (.int .i64) 0], 1⟩
theorem okp_laws_heldIntS : CtrOK Try.prog 122 (con_laws_heldIntS (laws_heldIntS_ )) :=
  fun_ok (c := Try.f122.body.getD .skip) (con_laws_heldIntS (laws_heldIntS_ )) (gOf []) [] [⟨2, lp_laws_heldIntS_2, laws_heldIntS_L2 ⟩] rfl Try.func122 rfl rfl rfl (gOf_nil) (by kernel_rfl) [2] 1 (by kernel_rfl) (by kernel_rfl)
    (fun x => .cons (⟨2, lp_laws_heldIntS_2, laws_heldIntS_L2 ⟩ : Lab (OKs [.v false [.int .i64]])) rfl rfl (by kernel_rfl) (by kernel_rfl) (.nil _))
theorem ok_laws_heldIntS : CtrOK Try.prog 122 (con_laws_heldIntS fun _ => g_laws_heldIntS) := (okp_laws_heldIntS  ).nice e_laws_heldIntS

theorem okp_laws_heldGuard (laws_heldIntS : Nat → List Int × Int → Option (Int)) (h122 : CtrOK Try.prog 122 (con_laws_heldIntS laws_heldIntS)) : CtrOK Try.prog 70 (con_laws_heldGuard (laws_heldGuard_ laws_heldIntS )) :=
  fun_ok0 (c := Try.f70.body.getD .skip) (con_laws_heldGuard (laws_heldGuard_ laws_heldIntS )) (gOf [(122, con_laws_heldIntS laws_heldIntS)]) rfl Try.func70 rfl rfl rfl (gOf_cons h122 (gOf_nil)) (by kernel_rfl) (by kernel_rfl)
theorem ok_laws_heldGuard : CtrOK Try.prog 70 (con_laws_heldGuard fun _ => g_laws_heldGuard) := (okp_laws_heldGuard _ ok_laws_heldIntS).nice e_laws_heldGuard

theorem okp_laws_heldDevice (laws_heldGuard : Nat → (List Int × Int) × Int → Option (Int)) (laws_heldTickS : Nat → ((List (Int × (Int × Int)))) × Int → Option (Int)) (h70 : CtrOK Try.prog 70 (con_laws_heldGuard laws_heldGuard)) (h71 : CtrOK Try.prog 71 (con_laws_heldTickS laws_heldTickS)) : CtrOK Try.prog 19 (con_laws_heldDevice (laws_heldDevice_ laws_heldGuard laws_heldTickS )) :=
  fun_ok0 (c := Try.f19.body.getD .skip) (con_laws_heldDevice (laws_heldDevice_ laws_heldGuard laws_heldTickS )) (gOf [(70, con_laws_heldGuard laws_heldGuard), (71, con_laws_heldTickS laws_heldTickS)]) rfl Try.func19 rfl rfl rfl (gOf_cons h70 (gOf_cons h71 (gOf_nil))) (by kernel_rfl) (by kernel_rfl)
theorem ok_laws_heldDevice : CtrOK Try.prog 19 (con_laws_heldDevice fun _ => g_laws_heldDevice) := (okp_laws_heldDevice _ _ ok_laws_heldGuard ok_laws_heldTickS).nice e_laws_heldDevice

theorem okp_laws_eqTick : CtrOK Try.prog 120 (con_laws_eqTick (laws_eqTick_ )) :=
  fun_ok0 (c := Try.f120.body.getD .skip) (con_laws_eqTick (laws_eqTick_ )) (gOf []) rfl Try.func120 rfl rfl rfl (gOf_nil) (by kernel_rfl) (by kernel_rfl)
theorem ok_laws_eqTick : CtrOK Try.prog 120 (con_laws_eqTick fun _ => g_laws_eqTick) := (okp_laws_eqTick  ).nice e_laws_eqTick

def lp_laws_eqTickS_4 : LP := ⟨[(0, false, [.sl 0]), (1, false, [.sl 1]), (5, false, [.int .i64])], [.ro (.pair (.int .i64) (.pair (.int .i64) (.int .i64))) 0, .ro (.pair (.int .i64) (.pair (.int .i64) (.int .i64))) 0], 2⟩
theorem okp_laws_eqTickS (laws_eqTick : Nat → (Int × Int × Int) × (Int × Int × Int) → Option (Bool)) (h120 : CtrOK Try.prog 120 (con_laws_eqTick laws_eqTick)) : CtrOK Try.prog 67 (con_laws_eqTickS (laws_eqTickS_ laws_eqTick )) :=
  fun_ok (c := Try.f67.body.getD .skip) (con_laws_eqTickS (laws_eqTickS_ laws_eqTick )) (gOf [(120, con_laws_eqTick laws_eqTick)]) [] [⟨4, lp_laws_eqTickS_4, laws_eqTickS_L4 laws_eqTick ⟩] rfl Try.func67 rfl rfl rfl (gOf_cons h120 (gOf_nil)) (by kernel_rfl) [4] 2 (by kernel_rfl) (by kernel_rfl)
    (fun x => .cons (⟨4, lp_laws_eqTickS_4, laws_eqTickS_L4 laws_eqTick ⟩ : Lab (OKs [.v false [.bool]])) rfl rfl (by kernel_rfl) (by kernel_rfl) (.nil _))
theorem ok_laws_eqTickS : CtrOK Try.prog 67 (con_laws_eqTickS fun _ => g_laws_eqTickS) := (okp_laws_eqTickS _ ok_laws_eqTick).nice e_laws_eqTickS

theorem okp_laws_eqMenu : CtrOK Try.prog 27 (con_laws_eqMenu (laws_eqMenu_ )) :=
  fun_ok0 (c := Try.f27.body.getD .skip) (con_laws_eqMenu (laws_eqMenu_ )) (gOf []) rfl Try.func27 rfl rfl rfl (gOf_nil) (by kernel_rfl) (by kernel_rfl)
theorem ok_laws_eqMenu : CtrOK Try.prog 27 (con_laws_eqMenu fun _ => g_laws_eqMenu) := (okp_laws_eqMenu  ).nice e_laws_eqMenu

def lp_laws_eqIntS_4 : LP := ⟨[(0, false, [.sl 0]), (1, false, [.sl 1]), (5, false, [.int .i64])], [.ro (.int .i64) 0, .ro (.int .i64) 0], 2⟩
theorem okp_laws_eqIntS : CtrOK Try.prog 119 (con_laws_eqIntS (laws_eqIntS_ )) :=
  fun_ok (c := Try.f119.body.getD .skip) (con_laws_eqIntS (laws_eqIntS_ )) (gOf []) [] [⟨4, lp_laws_eqIntS_4, laws_eqIntS_L4 ⟩] rfl Try.func119 rfl rfl rfl (gOf_nil) (by kernel_rfl) [4] 2 (by kernel_rfl) (by kernel_rfl)
    (fun x => .cons (⟨4, lp_laws_eqIntS_4, laws_eqIntS_L4 ⟩ : Lab (OKs [.v false [.bool]])) rfl rfl (by kernel_rfl) (by kernel_rfl) (.nil _))
theorem ok_laws_eqIntS : CtrOK Try.prog 119 (con_laws_eqIntS fun _ => g_laws_eqIntS) := (okp_laws_eqIntS  ).nice e_laws_eqIntS

theorem okp_laws_eqGuard (laws_eqIntS : Nat → List Int × List Int → Option (Bool)) (h119 : CtrOK Try.prog 119 (con_laws_eqIntS laws_eqIntS)) : CtrOK Try.prog 66 (con_laws_eqGuard (laws_eqGuard_ laws_eqIntS )) :=
  fun_ok0 (c := Try.f66.body.getD .skip) (con_laws_eqGuard (laws_eqGuard_ laws_eqIntS )) (gOf [(119, con_laws_eqIntS laws_eqIntS)]) rfl Try.func66 rfl rfl rfl (gOf_cons h119 (gOf_nil)) (by kernel_rfl) (by kernel_rfl)
theorem ok_laws_eqGuard : CtrOK Try.prog 66 (con_laws_eqGuard fun _ => g_laws_eqGuard) := (okp_laws_eqGuard _ ok_laws_eqIntS).nice e_laws_eqGuard

theorem okp_laws_eqRate : CtrOK Try.prog 118 (con_laws_eqRate (laws_eqRate_ )) :=
  fun_ok0 (c := Try.f118.body.getD .skip) (con_laws_eqRate (laws_eqRate_ )) (gOf []) rfl Try.func118 rfl rfl rfl (gOf_nil) (by kernel_rfl) (by kernel_rfl)
theorem ok_laws_eqRate : CtrOK Try.prog 118 (con_laws_eqRate fun _ => g_laws_eqRate) := (okp_laws_eqRate  ).nice e_laws_eqRate

theorem okp_laws_eqPump (laws_eqRate : Nat → (Int × Int × Int) × (Int × Int × Int) → Option (Bool)) (h118 : CtrOK Try.prog 118 (con_laws_eqRate laws_eqRate)) : CtrOK Try.prog 65 (con_laws_eqPump (laws_eqPump_ laws_eqRate )) :=
  fun_ok0 (c := Try.f65.body.getD .skip) (con_laws_eqPump (laws_eqPump_ laws_eqRate )) (gOf [(118, con_laws_eqRate laws_eqRate)]) rfl Try.func65 rfl rfl rfl (gOf_cons h118 (gOf_nil)) (by kernel_rfl) (by kernel_rfl)
theorem ok_laws_eqPump : CtrOK Try.prog 65 (con_laws_eqPump fun _ => g_laws_eqPump) := (okp_laws_eqPump _ ok_laws_eqRate).nice e_laws_eqPump

theorem okp_laws_eqDevice (laws_eqGuard : Nat → (List Int × Int) × (List Int × Int) → Option (Bool)) (laws_eqMenu : Nat → (Int × Bool × Int × Int × ByteArray) × (Int × Bool × Int × Int × ByteArray) → Option (Bool)) (laws_eqPump : Nat → (Int × Int × Int × Int × Int × Int × Int × Int) × (Int × Int × Int × Int × Int × Int × Int × Int) → Option (Bool)) (laws_eqTickS : Nat → ((List (Int × (Int × Int)))) × ((List (Int × (Int × Int)))) → Option (Bool)) (h66 : CtrOK Try.prog 66 (con_laws_eqGuard laws_eqGuard)) (h27 : CtrOK Try.prog 27 (con_laws_eqMenu laws_eqMenu)) (h65 : CtrOK Try.prog 65 (con_laws_eqPump laws_eqPump)) (h67 : CtrOK Try.prog 67 (con_laws_eqTickS laws_eqTickS)) : CtrOK Try.prog 17 (con_laws_eqDevice (laws_eqDevice_ laws_eqGuard laws_eqMenu laws_eqPump laws_eqTickS )) :=
  fun_ok0 (c := Try.f17.body.getD .skip) (con_laws_eqDevice (laws_eqDevice_ laws_eqGuard laws_eqMenu laws_eqPump laws_eqTickS )) (gOf [(66, con_laws_eqGuard laws_eqGuard), (27, con_laws_eqMenu laws_eqMenu), (65, con_laws_eqPump laws_eqPump), (67, con_laws_eqTickS laws_eqTickS)]) rfl Try.func17 rfl rfl rfl (gOf_cons h66 (gOf_cons h27 (gOf_cons h65 (gOf_cons h67 (gOf_nil))))) (by kernel_rfl) (by kernel_rfl)
theorem ok_laws_eqDevice : CtrOK Try.prog 17 (con_laws_eqDevice fun _ => g_laws_eqDevice) := (okp_laws_eqDevice _ _ _ _ ok_laws_eqGuard ok_laws_eqMenu ok_laws_eqPump ok_laws_eqTickS).nice e_laws_eqDevice

theorem okp_impl_MenuNew : CtrOK Try.prog 31 (con_impl_MenuNew (impl_MenuNew_ )) :=
  fun_ok0 (c := Try.f31.body.getD .skip) (con_impl_MenuNew (impl_MenuNew_ )) (gOf []) rfl Try.func31 rfl rfl rfl (gOf_nil) (by kernel_rfl) (by kernel_rfl)
theorem ok_impl_MenuNew : CtrOK Try.prog 31 (con_impl_MenuNew fun _ => g_impl_MenuNew) := (okp_impl_MenuNew  ).nice e_impl_MenuNew

theorem okp_impl_PumpNew : CtrOK Try.prog 55 (con_impl_PumpNew (impl_PumpNew_ )) :=
  fun_ok0 (c := Try.f55.body.getD .skip) (con_impl_PumpNew (impl_PumpNew_ )) (gOf []) rfl Try.func55 rfl rfl rfl (gOf_nil) (by kernel_rfl) (by kernel_rfl)
theorem ok_impl_PumpNew : CtrOK Try.prog 55 (con_impl_PumpNew fun _ => g_impl_PumpNew) := (okp_impl_PumpNew  ).nice e_impl_PumpNew

theorem okp_impl_DeviceNew (impl_MenuNew : Nat → Unit → Option ((Int × Bool × Int × Int × ByteArray))) (impl_PumpNew : Nat → Unit → Option ((Int × Int × Int × Int × Int × Int × Int × Int))) (h31 : CtrOK Try.prog 31 (con_impl_MenuNew impl_MenuNew)) (h55 : CtrOK Try.prog 55 (con_impl_PumpNew impl_PumpNew)) : CtrOK Try.prog 16 (con_impl_DeviceNew (impl_DeviceNew_ impl_MenuNew impl_PumpNew )) :=
  fun_ok0 (c := Try.f16.body.getD .skip) (con_impl_DeviceNew (impl_DeviceNew_ impl_MenuNew impl_PumpNew )) (gOf [(31, con_impl_MenuNew impl_MenuNew), (55, con_impl_PumpNew impl_PumpNew)]) rfl Try.func16 rfl rfl rfl (gOf_cons h31 (gOf_cons h55 (gOf_nil))) (by kernel_rfl) (by kernel_rfl)
theorem ok_impl_DeviceNew : CtrOK Try.prog 16 (con_impl_DeviceNew fun _ => g_impl_DeviceNew) := (okp_impl_DeviceNew _ _ ok_impl_MenuNew ok_impl_PumpNew).nice e_impl_DeviceNew

def lp_laws_markTickS_2 : LP := ⟨[(0, false, [.sl 0]), (1, false, [.int .i64]), (5, false, [.int .i64])], [.ro (.pair (.int .i64) (.pair (.int .i64) (.int .i64))) 0], 1⟩
theorem okp_laws_markTickS : CtrOK Try.prog 69 (con_laws_markTickS (laws_markTickS_ )) :=
  fun_ok (c := Try.f69.body.getD .skip) (con_laws_markTickS (laws_markTickS_ )) (gOf []) [] [⟨2, lp_laws_markTickS_2, laws_markTickS_L2 ⟩] rfl Try.func69 rfl rfl rfl (gOf_nil) (by kernel_rfl) [2] 1 (by kernel_rfl) (by kernel_rfl)
    (fun x => .cons (⟨2, lp_laws_markTickS_2, laws_markTickS_L2 ⟩ : Lab (OKs [.v false [.int .i64]])) rfl rfl (by kernel_rfl) (by kernel_rfl) (.nil _))
theorem ok_laws_markTickS : CtrOK Try.prog 69 (con_laws_markTickS fun _ => g_laws_markTickS) := (okp_laws_markTickS  ).nice e_laws_markTickS

def lp_laws_markIntS_2 : LP := ⟨[(0, false, [.sl 0]), (1, false, [.int .i64]), (5, false, [.int .i64])], [.ro (.int .i64) 0], 1⟩
theorem okp_laws_markIntS : CtrOK Try.prog 121 (con_laws_markIntS (laws_markIntS_ )) :=
  fun_ok (c := Try.f121.body.getD .skip) (con_laws_markIntS (laws_markIntS_ )) (gOf []) [] [⟨2, lp_laws_markIntS_2, laws_markIntS_L2 ⟩] rfl Try.func121 rfl rfl rfl (gOf_nil) (by kernel_rfl) [2] 1 (by kernel_rfl) (by kernel_rfl)
    (fun x => .cons (⟨2, lp_laws_markIntS_2, laws_markIntS_L2 ⟩ : Lab (OKs [.v false [.int .i64]])) rfl rfl (by kernel_rfl) (by kernel_rfl) (.nil _))
theorem ok_laws_markIntS : CtrOK Try.prog 121 (con_laws_markIntS fun _ => g_laws_markIntS) := (okp_laws_markIntS  ).nice e_laws_markIntS

theorem okp_laws_markGuard (laws_markIntS : Nat → List Int × Int → Option (Int)) (h121 : CtrOK Try.prog 121 (con_laws_markIntS laws_markIntS)) : CtrOK Try.prog 68 (con_laws_markGuard (laws_markGuard_ laws_markIntS )) :=
  fun_ok0 (c := Try.f68.body.getD .skip) (con_laws_markGuard (laws_markGuard_ laws_markIntS )) (gOf [(121, con_laws_markIntS laws_markIntS)]) rfl Try.func68 rfl rfl rfl (gOf_cons h121 (gOf_nil)) (by kernel_rfl) (by kernel_rfl)
theorem ok_laws_markGuard : CtrOK Try.prog 68 (con_laws_markGuard fun _ => g_laws_markGuard) := (okp_laws_markGuard _ ok_laws_markIntS).nice e_laws_markGuard

theorem okp_laws_markDevice (laws_markGuard : Nat → (List Int × Int) × Int → Option (Int)) (laws_markTickS : Nat → ((List (Int × (Int × Int)))) × Int → Option (Int)) (h68 : CtrOK Try.prog 68 (con_laws_markGuard laws_markGuard)) (h69 : CtrOK Try.prog 69 (con_laws_markTickS laws_markTickS)) : CtrOK Try.prog 18 (con_laws_markDevice (laws_markDevice_ laws_markGuard laws_markTickS )) :=
  fun_ok0 (c := Try.f18.body.getD .skip) (con_laws_markDevice (laws_markDevice_ laws_markGuard laws_markTickS )) (gOf [(68, con_laws_markGuard laws_markGuard), (69, con_laws_markTickS laws_markTickS)]) rfl Try.func18 rfl rfl rfl (gOf_cons h68 (gOf_cons h69 (gOf_nil))) (by kernel_rfl) (by kernel_rfl)
theorem ok_laws_markDevice : CtrOK Try.prog 18 (con_laws_markDevice fun _ => g_laws_markDevice) := (okp_laws_markDevice _ _ ok_laws_markGuard ok_laws_markTickS).nice e_laws_markDevice

theorem okp_spec_MenuNew : CtrOK Try.prog 33 (con_spec_MenuNew (spec_MenuNew_ )) :=
  fun_ok0 (c := Try.f33.body.getD .skip) (con_spec_MenuNew (spec_MenuNew_ )) (gOf []) rfl Try.func33 rfl rfl rfl (gOf_nil) (by kernel_rfl) (by kernel_rfl)
theorem ok_spec_MenuNew : CtrOK Try.prog 33 (con_spec_MenuNew fun _ => g_spec_MenuNew) := (okp_spec_MenuNew  ).nice e_spec_MenuNew

theorem okp_spec_PumpNew : CtrOK Try.prog 64 (con_spec_PumpNew (spec_PumpNew_ )) :=
  fun_ok0 (c := Try.f64.body.getD .skip) (con_spec_PumpNew (spec_PumpNew_ )) (gOf []) rfl Try.func64 rfl rfl rfl (gOf_nil) (by kernel_rfl) (by kernel_rfl)
theorem ok_spec_PumpNew : CtrOK Try.prog 64 (con_spec_PumpNew fun _ => g_spec_PumpNew) := (okp_spec_PumpNew  ).nice e_spec_PumpNew

theorem okp_spec_DeviceNew (spec_MenuNew : Nat → Unit → Option ((Int × Bool × Int × Int × ByteArray))) (spec_PumpNew : Nat → Unit → Option ((Int × Int × Int × Int × Int × Int × Int × Int))) (h33 : CtrOK Try.prog 33 (con_spec_MenuNew spec_MenuNew)) (h64 : CtrOK Try.prog 64 (con_spec_PumpNew spec_PumpNew)) : CtrOK Try.prog 15 (con_spec_DeviceNew (spec_DeviceNew_ spec_MenuNew spec_PumpNew )) :=
  fun_ok0 (c := Try.f15.body.getD .skip) (con_spec_DeviceNew (spec_DeviceNew_ spec_MenuNew spec_PumpNew )) (gOf [(33, con_spec_MenuNew spec_MenuNew), (64, con_spec_PumpNew spec_PumpNew)]) rfl Try.func15 rfl rfl rfl (gOf_cons h33 (gOf_cons h64 (gOf_nil))) (by kernel_rfl) (by kernel_rfl)
theorem ok_spec_DeviceNew : CtrOK Try.prog 15 (con_spec_DeviceNew fun _ => g_spec_DeviceNew) := (okp_spec_DeviceNew _ _ ok_spec_MenuNew ok_spec_PumpNew).nice e_spec_DeviceNew

theorem okp_laws_FnExactDeviceNew (impl_DeviceNew : Nat → Unit → Option ((Int × Int × Int × Int × Int × Int × Int × Int × List Int × Int × Int × Bool × Int × Int × ByteArray × (List (Int × (Int × Int))) × Int))) (laws_eqDevice : Nat → (Int × Int × Int × Int × Int × Int × Int × Int × List Int × Int × Int × Bool × Int × Int × ByteArray × (List (Int × (Int × Int))) × Int) × (Int × Int × Int × Int × Int × Int × Int × Int × List Int × Int × Int × Bool × Int × Int × ByteArray × (List (Int × (Int × Int))) × Int) → Option (Bool)) (laws_heldDevice : Nat → (Int × Int × Int × Int × Int × Int × Int × Int × List Int × Int × Int × Bool × Int × Int × ByteArray × (List (Int × (Int × Int))) × Int) × Int → Option (Int)) (laws_markDevice : Nat → (Int × Int × Int × Int × Int × Int × Int × Int × List Int × Int × Int × Bool × Int × Int × ByteArray × (List (Int × (Int × Int))) × Int) × Int → Option (Int)) (spec_DeviceNew : Nat → Unit → Option ((Int × Int × Int × Int × Int × Int × Int × Int × List Int × Int × Int × Bool × Int × Int × ByteArray × (List (Int × (Int × Int))) × Int))) (h16 : CtrOK Try.prog 16 (con_impl_DeviceNew impl_DeviceNew)) (h17 : CtrOK Try.prog 17 (con_laws_eqDevice laws_eqDevice)) (h19 : CtrOK Try.prog 19 (con_laws_heldDevice laws_heldDevice)) (h18 : CtrOK Try.prog 18 (con_laws_markDevice laws_markDevice)) (h15 : CtrOK Try.prog 15 (con_spec_DeviceNew spec_DeviceNew)) : CtrOK Try.prog 3 (con_laws_FnExactDeviceNew (laws_FnExactDeviceNew_ impl_DeviceNew laws_eqDevice laws_heldDevice laws_markDevice spec_DeviceNew )) :=
  fun_ok0 (c := Try.f3.body.getD .skip) (con_laws_FnExactDeviceNew (laws_FnExactDeviceNew_ impl_DeviceNew laws_eqDevice laws_heldDevice laws_markDevice spec_DeviceNew )) (gOf [(16, con_impl_DeviceNew impl_DeviceNew), (17, con_laws_eqDevice laws_eqDevice), (19, con_laws_heldDevice laws_heldDevice), (18, con_laws_markDevice laws_markDevice), (15, con_spec_DeviceNew spec_DeviceNew)]) rfl Try.func3 rfl rfl rfl (gOf_cons h16 (gOf_cons h17 (gOf_cons h19 (gOf_cons h18 (gOf_cons h15 (gOf_nil)))))) (by kernel_rfl) (by kernel_rfl)
theorem ok_laws_FnExactDeviceNew : CtrOK Try.prog 3 (con_laws_FnExactDeviceNew fun _ => g_laws_FnExactDeviceNew) := (okp_laws_FnExactDeviceNew _ _ _ _ _ ok_impl_DeviceNew ok_laws_eqDevice ok_laws_heldDevice ok_laws_markDevice ok_spec_DeviceNew).nice e_laws_FnExactDeviceNew

end Go.Sx.T
