/- Functions of the program as functions of Lean, and that the program keeps to them. -/
import Derived.Test.YtklcjpidbpplkaaFnExactGiveA0
import Derived.Test.YtklcjpidbpplkaaProg
set_option maxRecDepth 100000
set_option linter.unusedVariables false
set_option linter.unusedSimpArgs false
namespace Go.Proofs
end Go.Proofs
namespace Go.Sx.T
open Go Go.Sx Go.Proofs Go.RowKit
theorem okp_impl_within : CtrOK Try.prog 82 (con_impl_within (impl_within_ )) :=
  fun_ok0 (c := Try.f82.body.getD .skip) (con_impl_within (impl_within_ )) (gOf []) rfl Try.func82 rfl rfl rfl (gOf_nil) (by kernel_rfl) (by kernel_rfl)
theorem ok_impl_within : CtrOK Try.prog 82 (con_impl_within fun _ => g_impl_within) := (okp_impl_within  ).nice e_impl_within

theorem okp_impl_RateOk (impl_within : Nat → Int × Int × Int → Option (Bool)) (h82 : CtrOK Try.prog 82 (con_impl_within impl_within)) : CtrOK Try.prog 92 (con_impl_RateOk (impl_RateOk_ impl_within )) :=
  fun_ok0 (c := Try.f92.body.getD .skip) (con_impl_RateOk (impl_RateOk_ impl_within )) (gOf [(82, con_impl_within impl_within)]) rfl Try.func92 rfl rfl rfl (gOf_cons h82 (gOf_nil)) (by kernel_rfl) (by kernel_rfl)
theorem ok_impl_RateOk : CtrOK Try.prog 92 (con_impl_RateOk fun _ => g_impl_RateOk) := (okp_impl_RateOk _ ok_impl_within).nice e_impl_RateOk

theorem okp_impl_StepRate (impl_RateOk : Nat → (Int × Int × Int) → Option (Bool)) (h92 : CtrOK Try.prog 92 (con_impl_RateOk impl_RateOk)) : CtrOK Try.prog 65 (con_impl_StepRate (impl_StepRate_ impl_RateOk )) :=
  fun_ok0 (c := Try.f65.body.getD .skip) (con_impl_StepRate (impl_StepRate_ impl_RateOk )) (gOf [(92, con_impl_RateOk impl_RateOk)]) rfl Try.func65 rfl rfl rfl (gOf_cons h92 (gOf_nil)) (by kernel_rfl) (by kernel_rfl)
theorem ok_impl_StepRate : CtrOK Try.prog 65 (con_impl_StepRate fun _ => g_impl_StepRate) := (okp_impl_StepRate _ ok_impl_RateOk).nice e_impl_StepRate

theorem okp_impl_PumpOk (impl_RateOk : Nat → (Int × Int × Int) → Option (Bool)) (impl_within : Nat → Int × Int × Int → Option (Bool)) (h92 : CtrOK Try.prog 92 (con_impl_RateOk impl_RateOk)) (h82 : CtrOK Try.prog 82 (con_impl_within impl_within)) : CtrOK Try.prog 63 (con_impl_PumpOk (impl_PumpOk_ impl_RateOk impl_within )) :=
  fun_ok0 (c := Try.f63.body.getD .skip) (con_impl_PumpOk (impl_PumpOk_ impl_RateOk impl_within )) (gOf [(92, con_impl_RateOk impl_RateOk), (82, con_impl_within impl_within)]) rfl Try.func63 rfl rfl rfl (gOf_cons h92 (gOf_cons h82 (gOf_nil))) (by kernel_rfl) (by kernel_rfl)
theorem ok_impl_PumpOk : CtrOK Try.prog 63 (con_impl_PumpOk fun _ => g_impl_PumpOk) := (okp_impl_PumpOk _ _ ok_impl_RateOk ok_impl_within).nice e_impl_PumpOk

theorem okp_impl_Wants (impl_PumpOk : Nat → (Int × Int × Int × Int × Int × Int × Int × Int) → Option (Bool)) (impl_StepRate : Nat → (Int × Int × Int) → Option ((Int × Int × Int) × Int)) (h63 : CtrOK Try.prog 63 (con_impl_PumpOk impl_PumpOk)) (h65 : CtrOK Try.prog 65 (con_impl_StepRate impl_StepRate)) : CtrOK Try.prog 28 (con_impl_Wants (impl_Wants_ impl_PumpOk impl_StepRate )) :=
  fun_ok0 (c := Try.f28.body.getD .skip) (con_impl_Wants (impl_Wants_ impl_PumpOk impl_StepRate )) (gOf [(63, con_impl_PumpOk impl_PumpOk), (65, con_impl_StepRate impl_StepRate)]) rfl Try.func28 rfl rfl rfl (gOf_cons h63 (gOf_cons h65 (gOf_nil))) (by kernel_rfl) (by kernel_rfl)
theorem ok_impl_Wants : CtrOK Try.prog 28 (con_impl_Wants fun _ => g_impl_Wants) := (okp_impl_Wants _ _ ok_impl_PumpOk ok_impl_StepRate).nice e_impl_Wants

theorem okp_impl_Give (impl_PumpOk : Nat → (Int × Int × Int × Int × Int × Int × Int × Int) → Option (Bool)) (impl_StepRate : Nat → (Int × Int × Int) → Option ((Int × Int × Int) × Int)) (impl_Wants : Nat → (Int × Int × Int × Int × Int × Int × Int × Int) → Option (Int)) (h63 : CtrOK Try.prog 63 (con_impl_PumpOk impl_PumpOk)) (h65 : CtrOK Try.prog 65 (con_impl_StepRate impl_StepRate)) (h28 : CtrOK Try.prog 28 (con_impl_Wants impl_Wants)) : CtrOK Try.prog 27 (con_impl_Give (impl_Give_ impl_PumpOk impl_StepRate impl_Wants )) :=
  fun_ok0 (c := Try.f27.body.getD .skip) (con_impl_Give (impl_Give_ impl_PumpOk impl_StepRate impl_Wants )) (gOf [(63, con_impl_PumpOk impl_PumpOk), (65, con_impl_StepRate impl_StepRate), (28, con_impl_Wants impl_Wants)]) rfl Try.func27 rfl rfl rfl (gOf_cons h63 (gOf_cons h65 (gOf_cons h28 (gOf_nil)))) (by kernel_rfl) (by kernel_rfl)
theorem ok_impl_Give : CtrOK Try.prog 27 (con_impl_Give fun _ => g_impl_Give) := (okp_impl_Give _ _ _ ok_impl_PumpOk ok_impl_StepRate ok_impl_Wants).nice e_impl_Give

theorem okp_spec_l01In : CtrOK Try.prog 80 (con_spec_l01In (spec_l01In_ )) :=
  fun_ok0 (c := Try.f80.body.getD .skip) (con_spec_l01In (spec_l01In_ )) (gOf []) rfl Try.func80 rfl rfl rfl (gOf_nil) (by kernel_rfl) (by kernel_rfl)
theorem ok_spec_l01In : CtrOK Try.prog 80 (con_spec_l01In fun _ => g_spec_l01In) := (okp_spec_l01In  ).nice e_spec_l01In

theorem okp_spec_l15Less : CtrOK Try.prog 56 (con_spec_l15Less (spec_l15Less_ )) :=
  fun_ok0 (c := Try.f56.body.getD .skip) (con_spec_l15Less (spec_l15Less_ )) (gOf []) rfl Try.func56 rfl rfl rfl (gOf_nil) (by kernel_rfl) (by kernel_rfl)
theorem ok_spec_l15Less : CtrOK Try.prog 56 (con_spec_l15Less fun _ => g_spec_l15Less) := (okp_spec_l15Less  ).nice e_spec_l15Less

theorem okp_laws_eqRate : CtrOK Try.prog 77 (con_laws_eqRate (laws_eqRate_ )) :=
  fun_ok0 (c := Try.f77.body.getD .skip) (con_laws_eqRate (laws_eqRate_ )) (gOf []) rfl Try.func77 rfl rfl rfl (gOf_nil) (by kernel_rfl) (by kernel_rfl)
theorem ok_laws_eqRate : CtrOK Try.prog 77 (con_laws_eqRate fun _ => g_laws_eqRate) := (okp_laws_eqRate  ).nice e_laws_eqRate

theorem okp_laws_eqPump (laws_eqRate : Nat → (Int × Int × Int) × (Int × Int × Int) → Option (Bool)) (h77 : CtrOK Try.prog 77 (con_laws_eqRate laws_eqRate)) : CtrOK Try.prog 37 (con_laws_eqPump (laws_eqPump_ laws_eqRate )) :=
  fun_ok0 (c := Try.f37.body.getD .skip) (con_laws_eqPump (laws_eqPump_ laws_eqRate )) (gOf [(77, con_laws_eqRate laws_eqRate)]) rfl Try.func37 rfl rfl rfl (gOf_cons h77 (gOf_nil)) (by kernel_rfl) (by kernel_rfl)
theorem ok_laws_eqPump : CtrOK Try.prog 37 (con_laws_eqPump fun _ => g_laws_eqPump) := (okp_laws_eqPump _ ok_laws_eqRate).nice e_laws_eqPump

theorem okp_laws_toRate : CtrOK Try.prog 76 (con_laws_toRate (laws_toRate_ )) :=
  fun_ok0 (c := Try.f76.body.getD .skip) (con_laws_toRate (laws_toRate_ )) (gOf []) rfl Try.func76 rfl rfl rfl (gOf_nil) (by kernel_rfl) (by kernel_rfl)
theorem ok_laws_toRate : CtrOK Try.prog 76 (con_laws_toRate fun _ => g_laws_toRate) := (okp_laws_toRate  ).nice e_laws_toRate

theorem okp_laws_toPump (laws_toRate : Nat → (Int × Int × Int) → Option ((Int × Int × Int))) (h76 : CtrOK Try.prog 76 (con_laws_toRate laws_toRate)) : CtrOK Try.prog 36 (con_laws_toPump (laws_toPump_ laws_toRate )) :=
  fun_ok0 (c := Try.f36.body.getD .skip) (con_laws_toPump (laws_toPump_ laws_toRate )) (gOf [(76, con_laws_toRate laws_toRate)]) rfl Try.func36 rfl rfl rfl (gOf_cons h76 (gOf_nil)) (by kernel_rfl) (by kernel_rfl)
theorem ok_laws_toPump : CtrOK Try.prog 36 (con_laws_toPump fun _ => g_laws_toPump) := (okp_laws_toPump _ ok_laws_toRate).nice e_laws_toPump

theorem okp_spec_RateOk (spec_l01In : Nat → Int × Int × Int → Option (Bool)) (h80 : CtrOK Try.prog 80 (con_spec_l01In spec_l01In)) : CtrOK Try.prog 94 (con_spec_RateOk (spec_RateOk_ spec_l01In )) :=
  fun_ok0 (c := Try.f94.body.getD .skip) (con_spec_RateOk (spec_RateOk_ spec_l01In )) (gOf [(80, con_spec_l01In spec_l01In)]) rfl Try.func94 rfl rfl rfl (gOf_cons h80 (gOf_nil)) (by kernel_rfl) (by kernel_rfl)
theorem ok_spec_RateOk : CtrOK Try.prog 94 (con_spec_RateOk fun _ => g_spec_RateOk) := (okp_spec_RateOk _ ok_spec_l01In).nice e_spec_RateOk

theorem okp_spec_StepRate (spec_RateOk : Nat → (Int × Int × Int) → Option (Bool)) (h94 : CtrOK Try.prog 94 (con_spec_RateOk spec_RateOk)) : CtrOK Try.prog 75 (con_spec_StepRate (spec_StepRate_ spec_RateOk )) :=
  fun_ok0 (c := Try.f75.body.getD .skip) (con_spec_StepRate (spec_StepRate_ spec_RateOk )) (gOf [(94, con_spec_RateOk spec_RateOk)]) rfl Try.func75 rfl rfl rfl (gOf_cons h94 (gOf_nil)) (by kernel_rfl) (by kernel_rfl)
theorem ok_spec_StepRate : CtrOK Try.prog 75 (con_spec_StepRate fun _ => g_spec_StepRate) := (okp_spec_StepRate _ ok_spec_RateOk).nice e_spec_StepRate

theorem okp_spec_PumpOk (spec_RateOk : Nat → (Int × Int × Int) → Option (Bool)) (spec_l01In : Nat → Int × Int × Int → Option (Bool)) (h94 : CtrOK Try.prog 94 (con_spec_RateOk spec_RateOk)) (h80 : CtrOK Try.prog 80 (con_spec_l01In spec_l01In)) : CtrOK Try.prog 73 (con_spec_PumpOk (spec_PumpOk_ spec_RateOk spec_l01In )) :=
  fun_ok0 (c := Try.f73.body.getD .skip) (con_spec_PumpOk (spec_PumpOk_ spec_RateOk spec_l01In )) (gOf [(94, con_spec_RateOk spec_RateOk), (80, con_spec_l01In spec_l01In)]) rfl Try.func73 rfl rfl rfl (gOf_cons h94 (gOf_cons h80 (gOf_nil))) (by kernel_rfl) (by kernel_rfl)
theorem ok_spec_PumpOk : CtrOK Try.prog 73 (con_spec_PumpOk fun _ => g_spec_PumpOk) := (okp_spec_PumpOk _ _ ok_spec_RateOk ok_spec_l01In).nice e_spec_PumpOk

theorem okp_spec_Wants (spec_PumpOk : Nat → (Int × Int × Int × Int × Int × Int × Int × Int) → Option (Bool)) (spec_StepRate : Nat → (Int × Int × Int) → Option ((Int × Int × Int) × Int)) (spec_l15Less : Nat → Int × Int → Option (Int)) (h73 : CtrOK Try.prog 73 (con_spec_PumpOk spec_PumpOk)) (h75 : CtrOK Try.prog 75 (con_spec_StepRate spec_StepRate)) (h56 : CtrOK Try.prog 56 (con_spec_l15Less spec_l15Less)) : CtrOK Try.prog 74 (con_spec_Wants (spec_Wants_ spec_PumpOk spec_StepRate spec_l15Less )) :=
  fun_ok0 (c := Try.f74.body.getD .skip) (con_spec_Wants (spec_Wants_ spec_PumpOk spec_StepRate spec_l15Less )) (gOf [(73, con_spec_PumpOk spec_PumpOk), (75, con_spec_StepRate spec_StepRate), (56, con_spec_l15Less spec_l15Less)]) rfl Try.func74 rfl rfl rfl (gOf_cons h73 (gOf_cons h75 (gOf_cons h56 (gOf_nil)))) (by kernel_rfl) (by kernel_rfl)
theorem ok_spec_Wants : CtrOK Try.prog 74 (con_spec_Wants fun _ => g_spec_Wants) := (okp_spec_Wants _ _ _ ok_spec_PumpOk ok_spec_StepRate ok_spec_l15Less).nice e_spec_Wants

theorem okp_spec_Give (spec_PumpOk : Nat → (Int × Int × Int × Int × Int × Int × Int × Int) → Option (Bool)) (spec_StepRate : Nat → (Int × Int × Int) → Option ((Int × Int × Int) × Int)) (spec_Wants : Nat → (Int × Int × Int × Int × Int × Int × Int × Int) → Option (Int)) (spec_l15Less : Nat → Int × Int → Option (Int)) (h73 : CtrOK Try.prog 73 (con_spec_PumpOk spec_PumpOk)) (h75 : CtrOK Try.prog 75 (con_spec_StepRate spec_StepRate)) (h74 : CtrOK Try.prog 74 (con_spec_Wants spec_Wants)) (h56 : CtrOK Try.prog 56 (con_spec_l15Less spec_l15Less)) : CtrOK Try.prog 35 (con_spec_Give (spec_Give_ spec_PumpOk spec_StepRate spec_Wants spec_l15Less )) :=
  fun_ok0 (c := Try.f35.body.getD .skip) (con_spec_Give (spec_Give_ spec_PumpOk spec_StepRate spec_Wants spec_l15Less )) (gOf [(73, con_spec_PumpOk spec_PumpOk), (75, con_spec_StepRate spec_StepRate), (74, con_spec_Wants spec_Wants), (56, con_spec_l15Less spec_l15Less)]) rfl Try.func35 rfl rfl rfl (gOf_cons h73 (gOf_cons h75 (gOf_cons h74 (gOf_cons h56 (gOf_nil))))) (by kernel_rfl) (by kernel_rfl)
theorem ok_spec_Give : CtrOK Try.prog 35 (con_spec_Give fun _ => g_spec_Give) := (okp_spec_Give _ _ _ _ ok_spec_PumpOk ok_spec_StepRate ok_spec_Wants ok_spec_l15Less).nice e_spec_Give

theorem okp_laws_FnExactGive (impl_Give : Nat → (Int × Int × Int × Int × Int × Int × Int × Int) × Int → Option ((Int × Int × Int × Int × Int × Int × Int × Int))) (laws_eqPump : Nat → (Int × Int × Int × Int × Int × Int × Int × Int) × (Int × Int × Int × Int × Int × Int × Int × Int) → Option (Bool)) (laws_toPump : Nat → (Int × Int × Int × Int × Int × Int × Int × Int) → Option ((Int × Int × Int × Int × Int × Int × Int × Int))) (spec_Give : Nat → (Int × Int × Int × Int × Int × Int × Int × Int) × Int → Option ((Int × Int × Int × Int × Int × Int × Int × Int))) (h27 : CtrOK Try.prog 27 (con_impl_Give impl_Give)) (h37 : CtrOK Try.prog 37 (con_laws_eqPump laws_eqPump)) (h36 : CtrOK Try.prog 36 (con_laws_toPump laws_toPump)) (h35 : CtrOK Try.prog 35 (con_spec_Give spec_Give)) : CtrOK Try.prog 10 (con_laws_FnExactGive (laws_FnExactGive_ impl_Give laws_eqPump laws_toPump spec_Give )) :=
  fun_ok0 (c := Try.f10.body.getD .skip) (con_laws_FnExactGive (laws_FnExactGive_ impl_Give laws_eqPump laws_toPump spec_Give )) (gOf [(27, con_impl_Give impl_Give), (37, con_laws_eqPump laws_eqPump), (36, con_laws_toPump laws_toPump), (35, con_spec_Give spec_Give)]) rfl Try.func10 rfl rfl rfl (gOf_cons h27 (gOf_cons h37 (gOf_cons h36 (gOf_cons h35 (gOf_nil))))) (by kernel_rfl) (by kernel_rfl)
theorem ok_laws_FnExactGive : CtrOK Try.prog 10 (con_laws_FnExactGive fun _ => g_laws_FnExactGive) := (okp_laws_FnExactGive _ _ _ _ ok_impl_Give ok_laws_eqPump ok_laws_toPump ok_spec_Give).nice e_laws_FnExactGive

end Go.Sx.T
