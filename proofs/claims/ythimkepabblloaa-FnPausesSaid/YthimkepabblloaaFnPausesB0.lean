/- Functions of the program as functions of Lean, and that the program keeps to them. -/
import Derived.Test.YthimkepabblloaaFnPausesA0
import Derived.Test.YthimkepabblloaaProg
set_option maxRecDepth 100000
set_option linter.unusedVariables false
set_option linter.unusedSimpArgs false
namespace Go.Proofs
end Go.Proofs
namespace Go.Sx.T
open Go Go.Sx Go.Proofs Go.RowKit
theorem okp_spec_PumpNew : CtrOK Try.prog 64 (con_spec_PumpNew (spec_PumpNew_ )) :=
  fun_ok0 (c := Try.f64.body.getD .skip) (con_spec_PumpNew (spec_PumpNew_ )) (gOf []) rfl Try.func64 rfl rfl rfl (gOf_nil) (by kernel_rfl) (by kernel_rfl)
theorem ok_spec_PumpNew : CtrOK Try.prog 64 (con_spec_PumpNew fun _ => g_spec_PumpNew) := (okp_spec_PumpNew  ).nice e_spec_PumpNew

theorem okp_impl_within : CtrOK Try.prog 81 (con_impl_within (impl_within_ )) :=
  fun_ok0 (c := Try.f81.body.getD .skip) (con_impl_within (impl_within_ )) (gOf []) rfl Try.func81 rfl rfl rfl (gOf_nil) (by kernel_rfl) (by kernel_rfl)
theorem ok_impl_within : CtrOK Try.prog 81 (con_impl_within fun _ => g_impl_within) := (okp_impl_within  ).nice e_impl_within

theorem okp_impl_OrderOk (impl_within : Nat → Int × Int × Int → Option (Bool)) (h81 : CtrOK Try.prog 81 (con_impl_within impl_within)) : CtrOK Try.prog 35 (con_impl_OrderOk (impl_OrderOk_ impl_within )) :=
  fun_ok0 (c := Try.f35.body.getD .skip) (con_impl_OrderOk (impl_OrderOk_ impl_within )) (gOf [(81, con_impl_within impl_within)]) rfl Try.func35 rfl rfl rfl (gOf_cons h81 (gOf_nil)) (by kernel_rfl) (by kernel_rfl)
theorem ok_impl_OrderOk : CtrOK Try.prog 35 (con_impl_OrderOk fun _ => g_impl_OrderOk) := (okp_impl_OrderOk _ ok_impl_within).nice e_impl_OrderOk

theorem okp_spec_l01In : CtrOK Try.prog 88 (con_spec_l01In (spec_l01In_ )) :=
  fun_ok0 (c := Try.f88.body.getD .skip) (con_spec_l01In (spec_l01In_ )) (gOf []) rfl Try.func88 rfl rfl rfl (gOf_nil) (by kernel_rfl) (by kernel_rfl)
theorem ok_spec_l01In : CtrOK Try.prog 88 (con_spec_l01In fun _ => g_spec_l01In) := (okp_spec_l01In  ).nice e_spec_l01In

theorem okp_spec_OrderOk (spec_l01In : Nat → Int × Int × Int → Option (Bool)) (h88 : CtrOK Try.prog 88 (con_spec_l01In spec_l01In)) : CtrOK Try.prog 58 (con_spec_OrderOk (spec_OrderOk_ spec_l01In )) :=
  fun_ok0 (c := Try.f58.body.getD .skip) (con_spec_OrderOk (spec_OrderOk_ spec_l01In )) (gOf [(88, con_spec_l01In spec_l01In)]) rfl Try.func58 rfl rfl rfl (gOf_cons h88 (gOf_nil)) (by kernel_rfl) (by kernel_rfl)
theorem ok_spec_OrderOk : CtrOK Try.prog 58 (con_spec_OrderOk fun _ => g_spec_OrderOk) := (okp_spec_OrderOk _ ok_spec_l01In).nice e_spec_OrderOk

theorem okp_spec_l01Byte : CtrOK Try.prog 84 (con_spec_l01Byte (spec_l01Byte_ )) :=
  fun_ok0 (c := Try.f84.body.getD .skip) (con_spec_l01Byte (spec_l01Byte_ )) (gOf []) rfl Try.func84 rfl rfl rfl (gOf_nil) (by kernel_rfl) (by kernel_rfl)
theorem ok_spec_l01Byte : CtrOK Try.prog 84 (con_spec_l01Byte fun _ => g_spec_l01Byte) := (okp_spec_l01Byte  ).nice e_spec_l01Byte

theorem okp_spec_l01Below (spec_l01Byte : Nat → (List Int × Int × Int) → Option (Int × (Unit × Int × Int))) (h84 : CtrOK Try.prog 84 (con_spec_l01Byte spec_l01Byte)) : CtrOK Try.prog 85 (con_spec_l01Below (spec_l01Below_ spec_l01Byte )) :=
  fun_ok0 (c := Try.f85.body.getD .skip) (con_spec_l01Below (spec_l01Below_ spec_l01Byte )) (gOf [(84, con_spec_l01Byte spec_l01Byte)]) rfl Try.func85 rfl rfl rfl (gOf_cons h84 (gOf_nil)) (by kernel_rfl) (by kernel_rfl)
theorem ok_spec_l01Below : CtrOK Try.prog 85 (con_spec_l01Below fun _ => g_spec_l01Below) := (okp_spec_l01Below _ ok_spec_l01Byte).nice e_spec_l01Below

def lp_spec_l01New_3 : LP := ⟨[(0, false, [.sl 0]), (3, false, [.int .i64]), (4, false, [.int .i64])], [.ro (.int .u8) 0], 1⟩
theorem okp_spec_l01New : CtrOK Try.prog 83 (con_spec_l01New (spec_l01New_ )) :=
  fun_ok (c := Try.f83.body.getD .skip) (con_spec_l01New (spec_l01New_ )) (gOf []) [] [⟨3, lp_spec_l01New_3, spec_l01New_L3 ⟩] rfl Try.func83 rfl rfl rfl (gOf_nil) (by kernel_rfl) [3] 1 (by kernel_rfl) (by kernel_rfl)
    (fun x => .cons (⟨3, lp_spec_l01New_3, spec_l01New_L3 ⟩ : Lab (OKs [.box [.al 0 0, .int .i64, .int .i64] 155])) rfl rfl (by kernel_rfl) (by kernel_rfl) (.nil _))
theorem ok_spec_l01New : CtrOK Try.prog 83 (con_spec_l01New fun _ => g_spec_l01New) := (okp_spec_l01New  ).nice e_spec_l01New

theorem okp_laws_big : CtrOK Try.prog 28 (con_laws_big (laws_big_ )) :=
  fun_ok0 (c := Try.f28.body.getD .skip) (con_laws_big (laws_big_ )) (gOf []) rfl Try.func28 rfl rfl rfl (gOf_nil) (by kernel_rfl) (by kernel_rfl)
theorem ok_laws_big : CtrOK Try.prog 28 (con_laws_big fun _ => g_laws_big) := (okp_laws_big  ).nice e_laws_big

theorem okp_spec_l01PickInt (spec_l01Below : Nat → (List Int × Int × Int) × Int → Option (Int × (Unit × Int × Int))) (h85 : CtrOK Try.prog 85 (con_spec_l01Below spec_l01Below)) : CtrOK Try.prog 87 (con_spec_l01PickInt (spec_l01PickInt_ spec_l01Below )) :=
  fun_ok0 (c := Try.f87.body.getD .skip) (con_spec_l01PickInt (spec_l01PickInt_ spec_l01Below )) (gOf [(85, con_spec_l01Below spec_l01Below)]) rfl Try.func87 rfl rfl rfl (gOf_cons h85 (gOf_nil)) (by kernel_rfl) (by kernel_rfl)
theorem ok_spec_l01PickInt : CtrOK Try.prog 87 (con_spec_l01PickInt fun _ => g_spec_l01PickInt) := (okp_spec_l01PickInt _ ok_spec_l01Below).nice e_spec_l01PickInt

theorem okp_impl_RateOk (impl_within : Nat → Int × Int × Int → Option (Bool)) (h81 : CtrOK Try.prog 81 (con_impl_within impl_within)) : CtrOK Try.prog 104 (con_impl_RateOk (impl_RateOk_ impl_within )) :=
  fun_ok0 (c := Try.f104.body.getD .skip) (con_impl_RateOk (impl_RateOk_ impl_within )) (gOf [(81, con_impl_within impl_within)]) rfl Try.func104 rfl rfl rfl (gOf_cons h81 (gOf_nil)) (by kernel_rfl) (by kernel_rfl)
theorem ok_impl_RateOk : CtrOK Try.prog 104 (con_impl_RateOk fun _ => g_impl_RateOk) := (okp_impl_RateOk _ ok_impl_within).nice e_impl_RateOk

theorem okp_impl_StepRate (impl_RateOk : Nat → (Int × Int × Int) → Option (Bool)) (h104 : CtrOK Try.prog 104 (con_impl_RateOk impl_RateOk)) : CtrOK Try.prog 90 (con_impl_StepRate (impl_StepRate_ impl_RateOk )) :=
  fun_ok0 (c := Try.f90.body.getD .skip) (con_impl_StepRate (impl_StepRate_ impl_RateOk )) (gOf [(104, con_impl_RateOk impl_RateOk)]) rfl Try.func90 rfl rfl rfl (gOf_cons h104 (gOf_nil)) (by kernel_rfl) (by kernel_rfl)
theorem ok_impl_StepRate : CtrOK Try.prog 90 (con_impl_StepRate fun _ => g_impl_StepRate) := (okp_impl_StepRate _ ok_impl_RateOk).nice e_impl_StepRate

theorem okp_impl_PumpOk (impl_RateOk : Nat → (Int × Int × Int) → Option (Bool)) (impl_within : Nat → Int × Int × Int → Option (Bool)) (h104 : CtrOK Try.prog 104 (con_impl_RateOk impl_RateOk)) (h81 : CtrOK Try.prog 81 (con_impl_within impl_within)) : CtrOK Try.prog 53 (con_impl_PumpOk (impl_PumpOk_ impl_RateOk impl_within )) :=
  fun_ok0 (c := Try.f53.body.getD .skip) (con_impl_PumpOk (impl_PumpOk_ impl_RateOk impl_within )) (gOf [(104, con_impl_RateOk impl_RateOk), (81, con_impl_within impl_within)]) rfl Try.func53 rfl rfl rfl (gOf_cons h104 (gOf_cons h81 (gOf_nil))) (by kernel_rfl) (by kernel_rfl)
theorem ok_impl_PumpOk : CtrOK Try.prog 53 (con_impl_PumpOk fun _ => g_impl_PumpOk) := (okp_impl_PumpOk _ _ ok_impl_RateOk ok_impl_within).nice e_impl_PumpOk

theorem okp_impl_Wants (impl_PumpOk : Nat → (Int × Int × Int × Int × Int × Int × Int × Int) → Option (Bool)) (impl_StepRate : Nat → (Int × Int × Int) → Option ((Int × Int × Int) × Int)) (h53 : CtrOK Try.prog 53 (con_impl_PumpOk impl_PumpOk)) (h90 : CtrOK Try.prog 90 (con_impl_StepRate impl_StepRate)) : CtrOK Try.prog 41 (con_impl_Wants (impl_Wants_ impl_PumpOk impl_StepRate )) :=
  fun_ok0 (c := Try.f41.body.getD .skip) (con_impl_Wants (impl_Wants_ impl_PumpOk impl_StepRate )) (gOf [(53, con_impl_PumpOk impl_PumpOk), (90, con_impl_StepRate impl_StepRate)]) rfl Try.func41 rfl rfl rfl (gOf_cons h53 (gOf_cons h90 (gOf_nil))) (by kernel_rfl) (by kernel_rfl)
theorem ok_impl_Wants : CtrOK Try.prog 41 (con_impl_Wants fun _ => g_impl_Wants) := (okp_impl_Wants _ _ ok_impl_PumpOk ok_impl_StepRate).nice e_impl_Wants

theorem okp_impl_Give (impl_PumpOk : Nat → (Int × Int × Int × Int × Int × Int × Int × Int) → Option (Bool)) (impl_StepRate : Nat → (Int × Int × Int) → Option ((Int × Int × Int) × Int)) (impl_Wants : Nat → (Int × Int × Int × Int × Int × Int × Int × Int) → Option (Int)) (h53 : CtrOK Try.prog 53 (con_impl_PumpOk impl_PumpOk)) (h90 : CtrOK Try.prog 90 (con_impl_StepRate impl_StepRate)) (h41 : CtrOK Try.prog 41 (con_impl_Wants impl_Wants)) : CtrOK Try.prog 42 (con_impl_Give (impl_Give_ impl_PumpOk impl_StepRate impl_Wants )) :=
  fun_ok0 (c := Try.f42.body.getD .skip) (con_impl_Give (impl_Give_ impl_PumpOk impl_StepRate impl_Wants )) (gOf [(53, con_impl_PumpOk impl_PumpOk), (90, con_impl_StepRate impl_StepRate), (41, con_impl_Wants impl_Wants)]) rfl Try.func42 rfl rfl rfl (gOf_cons h53 (gOf_cons h90 (gOf_cons h41 (gOf_nil)))) (by kernel_rfl) (by kernel_rfl)
theorem ok_impl_Give : CtrOK Try.prog 42 (con_impl_Give fun _ => g_impl_Give) := (okp_impl_Give _ _ _ ok_impl_PumpOk ok_impl_StepRate ok_impl_Wants).nice e_impl_Give

theorem okp_impl_Take (impl_OrderOk : Nat → (Int × Int × Int × Int) → Option (Bool)) (impl_PumpOk : Nat → (Int × Int × Int × Int × Int × Int × Int × Int) → Option (Bool)) (h35 : CtrOK Try.prog 35 (con_impl_OrderOk impl_OrderOk)) (h53 : CtrOK Try.prog 53 (con_impl_PumpOk impl_PumpOk)) : CtrOK Try.prog 40 (con_impl_Take (impl_Take_ impl_OrderOk impl_PumpOk )) :=
  fun_ok0 (c := Try.f40.body.getD .skip) (con_impl_Take (impl_Take_ impl_OrderOk impl_PumpOk )) (gOf [(35, con_impl_OrderOk impl_OrderOk), (53, con_impl_PumpOk impl_PumpOk)]) rfl Try.func40 rfl rfl rfl (gOf_cons h35 (gOf_cons h53 (gOf_nil))) (by kernel_rfl) (by kernel_rfl)
theorem ok_impl_Take : CtrOK Try.prog 40 (con_impl_Take fun _ => g_impl_Take) := (okp_impl_Take _ _ ok_impl_OrderOk ok_impl_PumpOk).nice e_impl_Take

theorem okp_spec_l15Less : CtrOK Try.prog 102 (con_spec_l15Less (spec_l15Less_ )) :=
  fun_ok0 (c := Try.f102.body.getD .skip) (con_spec_l15Less (spec_l15Less_ )) (gOf []) rfl Try.func102 rfl rfl rfl (gOf_nil) (by kernel_rfl) (by kernel_rfl)
theorem ok_spec_l15Less : CtrOK Try.prog 102 (con_spec_l15Less fun _ => g_spec_l15Less) := (okp_spec_l15Less  ).nice e_spec_l15Less

theorem okp_spec_RateOk (spec_l01In : Nat → Int × Int × Int → Option (Bool)) (h88 : CtrOK Try.prog 88 (con_spec_l01In spec_l01In)) : CtrOK Try.prog 132 (con_spec_RateOk (spec_RateOk_ spec_l01In )) :=
  fun_ok0 (c := Try.f132.body.getD .skip) (con_spec_RateOk (spec_RateOk_ spec_l01In )) (gOf [(88, con_spec_l01In spec_l01In)]) rfl Try.func132 rfl rfl rfl (gOf_cons h88 (gOf_nil)) (by kernel_rfl) (by kernel_rfl)
theorem ok_spec_RateOk : CtrOK Try.prog 132 (con_spec_RateOk fun _ => g_spec_RateOk) := (okp_spec_RateOk _ ok_spec_l01In).nice e_spec_RateOk

theorem okp_spec_StepRate (spec_RateOk : Nat → (Int × Int × Int) → Option (Bool)) (h132 : CtrOK Try.prog 132 (con_spec_RateOk spec_RateOk)) : CtrOK Try.prog 103 (con_spec_StepRate (spec_StepRate_ spec_RateOk )) :=
  fun_ok0 (c := Try.f103.body.getD .skip) (con_spec_StepRate (spec_StepRate_ spec_RateOk )) (gOf [(132, con_spec_RateOk spec_RateOk)]) rfl Try.func103 rfl rfl rfl (gOf_cons h132 (gOf_nil)) (by kernel_rfl) (by kernel_rfl)
theorem ok_spec_StepRate : CtrOK Try.prog 103 (con_spec_StepRate fun _ => g_spec_StepRate) := (okp_spec_StepRate _ ok_spec_RateOk).nice e_spec_StepRate

theorem okp_spec_PumpOk (spec_RateOk : Nat → (Int × Int × Int) → Option (Bool)) (spec_l01In : Nat → Int × Int × Int → Option (Bool)) (h132 : CtrOK Try.prog 132 (con_spec_RateOk spec_RateOk)) (h88 : CtrOK Try.prog 88 (con_spec_l01In spec_l01In)) : CtrOK Try.prog 93 (con_spec_PumpOk (spec_PumpOk_ spec_RateOk spec_l01In )) :=
  fun_ok0 (c := Try.f93.body.getD .skip) (con_spec_PumpOk (spec_PumpOk_ spec_RateOk spec_l01In )) (gOf [(132, con_spec_RateOk spec_RateOk), (88, con_spec_l01In spec_l01In)]) rfl Try.func93 rfl rfl rfl (gOf_cons h132 (gOf_cons h88 (gOf_nil))) (by kernel_rfl) (by kernel_rfl)
theorem ok_spec_PumpOk : CtrOK Try.prog 93 (con_spec_PumpOk fun _ => g_spec_PumpOk) := (okp_spec_PumpOk _ _ ok_spec_RateOk ok_spec_l01In).nice e_spec_PumpOk

theorem okp_spec_Wants (spec_PumpOk : Nat → (Int × Int × Int × Int × Int × Int × Int × Int) → Option (Bool)) (spec_StepRate : Nat → (Int × Int × Int) → Option ((Int × Int × Int) × Int)) (spec_l15Less : Nat → Int × Int → Option (Int)) (h93 : CtrOK Try.prog 93 (con_spec_PumpOk spec_PumpOk)) (h103 : CtrOK Try.prog 103 (con_spec_StepRate spec_StepRate)) (h102 : CtrOK Try.prog 102 (con_spec_l15Less spec_l15Less)) : CtrOK Try.prog 54 (con_spec_Wants (spec_Wants_ spec_PumpOk spec_StepRate spec_l15Less )) :=
  fun_ok0 (c := Try.f54.body.getD .skip) (con_spec_Wants (spec_Wants_ spec_PumpOk spec_StepRate spec_l15Less )) (gOf [(93, con_spec_PumpOk spec_PumpOk), (103, con_spec_StepRate spec_StepRate), (102, con_spec_l15Less spec_l15Less)]) rfl Try.func54 rfl rfl rfl (gOf_cons h93 (gOf_cons h103 (gOf_cons h102 (gOf_nil)))) (by kernel_rfl) (by kernel_rfl)
theorem ok_spec_Wants : CtrOK Try.prog 54 (con_spec_Wants fun _ => g_spec_Wants) := (okp_spec_Wants _ _ _ ok_spec_PumpOk ok_spec_StepRate ok_spec_l15Less).nice e_spec_Wants

theorem okp_spec_Give (spec_PumpOk : Nat → (Int × Int × Int × Int × Int × Int × Int × Int) → Option (Bool)) (spec_StepRate : Nat → (Int × Int × Int) → Option ((Int × Int × Int) × Int)) (spec_Wants : Nat → (Int × Int × Int × Int × Int × Int × Int × Int) → Option (Int)) (spec_l15Less : Nat → Int × Int → Option (Int)) (h93 : CtrOK Try.prog 93 (con_spec_PumpOk spec_PumpOk)) (h103 : CtrOK Try.prog 103 (con_spec_StepRate spec_StepRate)) (h54 : CtrOK Try.prog 54 (con_spec_Wants spec_Wants)) (h102 : CtrOK Try.prog 102 (con_spec_l15Less spec_l15Less)) : CtrOK Try.prog 52 (con_spec_Give (spec_Give_ spec_PumpOk spec_StepRate spec_Wants spec_l15Less )) :=
  fun_ok0 (c := Try.f52.body.getD .skip) (con_spec_Give (spec_Give_ spec_PumpOk spec_StepRate spec_Wants spec_l15Less )) (gOf [(93, con_spec_PumpOk spec_PumpOk), (103, con_spec_StepRate spec_StepRate), (54, con_spec_Wants spec_Wants), (102, con_spec_l15Less spec_l15Less)]) rfl Try.func52 rfl rfl rfl (gOf_cons h93 (gOf_cons h103 (gOf_cons h54 (gOf_cons h102 (gOf_nil))))) (by kernel_rfl) (by kernel_rfl)
theorem ok_spec_Give : CtrOK Try.prog 52 (con_spec_Give fun _ => g_spec_Give) := (okp_spec_Give _ _ _ _ ok_spec_PumpOk ok_spec_StepRate ok_spec_Wants ok_spec_l15Less).nice e_spec_Give

theorem okp_spec_Take (spec_OrderOk : Nat → (Int × Int × Int × Int) → Option (Bool)) (spec_PumpOk : Nat → (Int × Int × Int × Int × Int × Int × Int × Int) → Option (Bool)) (h58 : CtrOK Try.prog 58 (con_spec_OrderOk spec_OrderOk)) (h93 : CtrOK Try.prog 93 (con_spec_PumpOk spec_PumpOk)) : CtrOK Try.prog 51 (con_spec_Take (spec_Take_ spec_OrderOk spec_PumpOk )) :=
  fun_ok0 (c := Try.f51.body.getD .skip) (con_spec_Take (spec_Take_ spec_OrderOk spec_PumpOk )) (gOf [(58, con_spec_OrderOk spec_OrderOk), (93, con_spec_PumpOk spec_PumpOk)]) rfl Try.func51 rfl rfl rfl (gOf_cons h58 (gOf_cons h93 (gOf_nil))) (by kernel_rfl) (by kernel_rfl)
theorem ok_spec_Take : CtrOK Try.prog 51 (con_spec_Take fun _ => g_spec_Take) := (okp_spec_Take _ _ ok_spec_OrderOk ok_spec_PumpOk).nice e_spec_Take

theorem okp_spec_l14Order (spec_l01Below : Nat → (List Int × Int × Int) × Int → Option (Int × (Unit × Int × Int))) (spec_l01PickInt : Nat → (List Int × Int × Int) × List Int → Option (Int × (Unit × Int × Int))) (h85 : CtrOK Try.prog 85 (con_spec_l01Below spec_l01Below)) (h87 : CtrOK Try.prog 87 (con_spec_l01PickInt spec_l01PickInt)) : CtrOK Try.prog 130 (con_spec_l14Order (spec_l14Order_ spec_l01Below spec_l01PickInt )) :=
  fun_ok0 (c := Try.f130.body.getD .skip) (con_spec_l14Order (spec_l14Order_ spec_l01Below spec_l01PickInt )) (gOf [(85, con_spec_l01Below spec_l01Below), (87, con_spec_l01PickInt spec_l01PickInt)]) rfl Try.func130 rfl rfl rfl (gOf_cons h85 (gOf_cons h87 (gOf_nil))) (by kernel_rfl) (by kernel_rfl)
theorem ok_spec_l14Order : CtrOK Try.prog 130 (con_spec_l14Order fun _ => g_spec_l14Order) := (okp_spec_l14Order _ _ ok_spec_l01Below ok_spec_l01PickInt).nice e_spec_l14Order

theorem okp_spec_l01Once (spec_l01Below : Nat → (List Int × Int × Int) × Int → Option (Int × (Unit × Int × Int))) (h85 : CtrOK Try.prog 85 (con_spec_l01Below spec_l01Below)) : CtrOK Try.prog 107 (con_spec_l01Once (spec_l01Once_ spec_l01Below )) :=
  fun_ok0 (c := Try.f107.body.getD .skip) (con_spec_l01Once (spec_l01Once_ spec_l01Below )) (gOf [(85, con_spec_l01Below spec_l01Below)]) rfl Try.func107 rfl rfl rfl (gOf_cons h85 (gOf_nil)) (by kernel_rfl) (by kernel_rfl)
theorem ok_spec_l01Once : CtrOK Try.prog 107 (con_spec_l01Once fun _ => g_spec_l01Once) := (okp_spec_l01Once _ ok_spec_l01Below).nice e_spec_l01Once

def lp_spec_l15Pump_3 : LP := ⟨[(0, false, [.ptr 0 0]), (2, false, [.ptr 2 0]), (3, false, [.ptr 3 0]), (4, false, [.int .i64])], [.box [.sl 1, .int .i64, .int .i64] 155, .ro (.int .u8) 0, .box [.int .i64, .int .i64, .int .i64, .int .i64, .int .i64, .int .i64, .int .i64, .int .i64] 25, .box [.int .i64, .int .i64, .int .i64, .int .i64, .int .i64, .int .i64, .int .i64, .int .i64] 25], 2⟩
theorem okp_spec_l15Pump (spec_Give : Nat → (Int × Int × Int × Int × Int × Int × Int × Int) × Int → Option ((Int × Int × Int × Int × Int × Int × Int × Int))) (spec_PumpNew : Nat → Unit → Option ((Int × Int × Int × Int × Int × Int × Int × Int))) (spec_Take : Nat → (Int × Int × Int × Int × Int × Int × Int × Int) × (Int × Int × Int × Int) → Option ((Int × Int × Int × Int × Int × Int × Int × Int) × Bool)) (spec_l01Below : Nat → (List Int × Int × Int) × Int → Option (Int × (Unit × Int × Int))) (spec_l01Once : Nat → (List Int × Int × Int) × Int → Option (Bool × (Unit × Int × Int))) (spec_l14Order : Nat → (List Int × Int × Int) → Option ((Int × Int × Int × Int) × (Unit × Int × Int))) (h52 : CtrOK Try.prog 52 (con_spec_Give spec_Give)) (h64 : CtrOK Try.prog 64 (con_spec_PumpNew spec_PumpNew)) (h51 : CtrOK Try.prog 51 (con_spec_Take spec_Take)) (h85 : CtrOK Try.prog 85 (con_spec_l01Below spec_l01Below)) (h107 : CtrOK Try.prog 107 (con_spec_l01Once spec_l01Once)) (h130 : CtrOK Try.prog 130 (con_spec_l14Order spec_l14Order)) : CtrOK Try.prog 89 (con_spec_l15Pump (spec_l15Pump_ spec_Give spec_PumpNew spec_Take spec_l01Below spec_l01Once spec_l14Order )) :=
  fun_ok (c := Try.f89.body.getD .skip) (con_spec_l15Pump (spec_l15Pump_ spec_Give spec_PumpNew spec_Take spec_l01Below spec_l01Once spec_l14Order )) (gOf [(52, con_spec_Give spec_Give), (64, con_spec_PumpNew spec_PumpNew), (51, con_spec_Take spec_Take), (85, con_spec_l01Below spec_l01Below), (107, con_spec_l01Once spec_l01Once), (130, con_spec_l14Order spec_l14Order)]) [] [⟨3, lp_spec_l15Pump_3, spec_l15Pump_L3 spec_Give spec_PumpNew spec_Take spec_l01Below spec_l01Once spec_l14Order ⟩] rfl Try.func89 rfl rfl rfl (gOf_cons h52 (gOf_cons h64 (gOf_cons h51 (gOf_cons h85 (gOf_cons h107 (gOf_cons h130 (gOf_nil))))))) (by kernel_rfl) [3] 2 (by kernel_rfl) (by kernel_rfl)
    (fun x => .cons (⟨3, lp_spec_l15Pump_3, spec_l15Pump_L3 spec_Give spec_PumpNew spec_Take spec_l01Below spec_l01Once spec_l14Order ⟩ : Lab (OKs [.v true [.int .i64, .int .i64, .int .i64, .int .i64, .int .i64, .int .i64, .int .i64, .int .i64], .box [.keep, .int .i64, .int .i64] 155])) rfl rfl (by kernel_rfl) (by kernel_rfl) (.nil _))
theorem ok_spec_l15Pump : CtrOK Try.prog 89 (con_spec_l15Pump fun _ => g_spec_l15Pump) := (okp_spec_l15Pump _ _ _ _ _ _ ok_spec_Give ok_spec_PumpNew ok_spec_Take ok_spec_l01Below ok_spec_l01Once ok_spec_l14Order).nice e_spec_l15Pump

theorem okp_spec_DrawPump (spec_l01New : Nat → List Int → Option ((Unit × Int × Int))) (spec_l15Pump : Nat → (List Int × Int × Int) → Option ((Int × Int × Int × Int × Int × Int × Int × Int) × (Unit × Int × Int))) (h83 : CtrOK Try.prog 83 (con_spec_l01New spec_l01New)) (h89 : CtrOK Try.prog 89 (con_spec_l15Pump spec_l15Pump)) : CtrOK Try.prog 39 (con_spec_DrawPump (spec_DrawPump_ spec_l01New spec_l15Pump )) :=
  fun_ok0 (c := Try.f39.body.getD .skip) (con_spec_DrawPump (spec_DrawPump_ spec_l01New spec_l15Pump )) (gOf [(83, con_spec_l01New spec_l01New), (89, con_spec_l15Pump spec_l15Pump)]) rfl Try.func39 rfl rfl rfl (gOf_cons h83 (gOf_cons h89 (gOf_nil))) (by kernel_rfl) (by kernel_rfl)
theorem ok_spec_DrawPump : CtrOK Try.prog 39 (con_spec_DrawPump fun _ => g_spec_DrawPump) := (okp_spec_DrawPump _ _ ok_spec_l01New ok_spec_l15Pump).nice e_spec_DrawPump

theorem okp_laws_FnPauses (impl_Give : Nat → (Int × Int × Int × Int × Int × Int × Int × Int) × Int → Option ((Int × Int × Int × Int × Int × Int × Int × Int))) (impl_Take : Nat → (Int × Int × Int × Int × Int × Int × Int × Int) × (Int × Int × Int × Int) → Option ((Int × Int × Int × Int × Int × Int × Int × Int) × Bool)) (impl_Wants : Nat → (Int × Int × Int × Int × Int × Int × Int × Int) → Option (Int)) (laws_big : Nat → List Int → Option (Bool)) (spec_DrawPump : Nat → List Int → Option ((Int × Int × Int × Int × Int × Int × Int × Int))) (h42 : CtrOK Try.prog 42 (con_impl_Give impl_Give)) (h40 : CtrOK Try.prog 40 (con_impl_Take impl_Take)) (h41 : CtrOK Try.prog 41 (con_impl_Wants impl_Wants)) (h28 : CtrOK Try.prog 28 (con_laws_big laws_big)) (h39 : CtrOK Try.prog 39 (con_spec_DrawPump spec_DrawPump)) : CtrOK Try.prog 8 (con_laws_FnPauses (laws_FnPauses_ impl_Give impl_Take impl_Wants laws_big spec_DrawPump )) :=
  fun_ok0 (c := Try.f8.body.getD .skip) (con_laws_FnPauses (laws_FnPauses_ impl_Give impl_Take impl_Wants laws_big spec_DrawPump )) (gOf [(42, con_impl_Give impl_Give), (40, con_impl_Take impl_Take), (41, con_impl_Wants impl_Wants), (28, con_laws_big laws_big), (39, con_spec_DrawPump spec_DrawPump)]) rfl Try.func8 rfl rfl rfl (gOf_cons h42 (gOf_cons h40 (gOf_cons h41 (gOf_cons h28 (gOf_cons h39 (gOf_nil)))))) (by kernel_rfl) (by kernel_rfl)
theorem ok_laws_FnPauses : CtrOK Try.prog 8 (con_laws_FnPauses fun _ => g_laws_FnPauses) := (okp_laws_FnPauses _ _ _ _ _ ok_impl_Give ok_impl_Take ok_impl_Wants ok_laws_big ok_spec_DrawPump).nice e_laws_FnPauses

end Go.Sx.T
