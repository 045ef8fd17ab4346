/- Functions of the program as functions of Lean, and that the program keeps to them. -/
import Derived.Test.YtklcjpidbpplkaaFnExactTakeA0
import Derived.Test.YtklcjpidbpplkaaProg
set_option maxRecDepth 100000
set_option linter.unusedVariables false
set_option linter.unusedSimpArgs false
namespace Go.Proofs
end Go.Proofs
namespace Go.Sx.T
open Go Go.Sx Go.Proofs Go.RowKit
theorem okp_impl_within : CtrOK Try.prog 82 (con_impl_within (impl_within_ )) :=
  fun_ok0 (c := Try.f82.body.getD .skip) (con_impl_within (impl_within_ )) (gOf []) rfl Try.func82 rfl rfl rfl (gOf_nil) (by kernel_rfl) (by kernel_rfl)
theorem ok_impl_within : CtrOK Try.prog 82 (con_impl_within fun _ => g_impl_within) := (okp_impl_within  ).nice e_impl_within

theorem okp_impl_RateOk (impl_within : Nat → Int × Int × Int → Option (Bool)) (h82 : CtrOK Try.prog 82 (con_impl_within impl_within)) : CtrOK Try.prog 92 (con_impl_RateOk (impl_RateOk_ impl_within )) :=
  fun_ok0 (c := Try.f92.body.getD .skip) (con_impl_RateOk (impl_RateOk_ impl_within )) (gOf [(82, con_impl_within impl_within)]) rfl Try.func92 rfl rfl rfl (gOf_cons h82 (gOf_nil)) (by kernel_rfl) (by kernel_rfl)
theorem ok_impl_RateOk : CtrOK Try.prog 92 (con_impl_RateOk fun _ => g_impl_RateOk) := (okp_impl_RateOk _ ok_impl_within).nice e_impl_RateOk

theorem okp_impl_PumpOk (impl_RateOk : Nat → (Int × Int × Int) → Option (Bool)) (impl_within : Nat → Int × Int × Int → Option (Bool)) (h92 : CtrOK Try.prog 92 (con_impl_RateOk impl_RateOk)) (h82 : CtrOK Try.prog 82 (con_impl_within impl_within)) : CtrOK Try.prog 63 (con_impl_PumpOk (impl_PumpOk_ impl_RateOk impl_within )) :=
  fun_ok0 (c := Try.f63.body.getD .skip) (con_impl_PumpOk (impl_PumpOk_ impl_RateOk impl_within )) (gOf [(92, con_impl_RateOk impl_RateOk), (82, con_impl_within impl_within)]) rfl Try.func63 rfl rfl rfl (gOf_cons h92 (gOf_cons h82 (gOf_nil))) (by kernel_rfl) (by kernel_rfl)
theorem ok_impl_PumpOk : CtrOK Try.prog 63 (con_impl_PumpOk fun _ => g_impl_PumpOk) := (okp_impl_PumpOk _ _ ok_impl_RateOk ok_impl_within).nice e_impl_PumpOk

theorem okp_impl_OrderOk (impl_within : Nat → Int × Int × Int → Option (Bool)) (h82 : CtrOK Try.prog 82 (con_impl_within impl_within)) : CtrOK Try.prog 64 (con_impl_OrderOk (impl_OrderOk_ impl_within )) :=
  fun_ok0 (c := Try.f64.body.getD .skip) (con_impl_OrderOk (impl_OrderOk_ impl_within )) (gOf [(82, con_impl_within impl_within)]) rfl Try.func64 rfl rfl rfl (gOf_cons h82 (gOf_nil)) (by kernel_rfl) (by kernel_rfl)
theorem ok_impl_OrderOk : CtrOK Try.prog 64 (con_impl_OrderOk fun _ => g_impl_OrderOk) := (okp_impl_OrderOk _ ok_impl_within).nice e_impl_OrderOk

theorem okp_impl_Take (impl_OrderOk : Nat → (Int × Int × Int × Int) → Option (Bool)) (impl_PumpOk : Nat → (Int × Int × Int × Int × Int × Int × Int × Int) → Option (Bool)) (h64 : CtrOK Try.prog 64 (con_impl_OrderOk impl_OrderOk)) (h63 : CtrOK Try.prog 63 (con_impl_PumpOk impl_PumpOk)) : CtrOK Try.prog 25 (con_impl_Take (impl_Take_ impl_OrderOk impl_PumpOk )) :=
  fun_ok0 (c := Try.f25.body.getD .skip) (con_impl_Take (impl_Take_ impl_OrderOk impl_PumpOk )) (gOf [(64, con_impl_OrderOk impl_OrderOk), (63, con_impl_PumpOk impl_PumpOk)]) rfl Try.func25 rfl rfl rfl (gOf_cons h64 (gOf_cons h63 (gOf_nil))) (by kernel_rfl) (by kernel_rfl)
theorem ok_impl_Take : CtrOK Try.prog 25 (con_impl_Take fun _ => g_impl_Take) := (okp_impl_Take _ _ ok_impl_OrderOk ok_impl_PumpOk).nice e_impl_Take

theorem okp_spec_l01In : CtrOK Try.prog 80 (con_spec_l01In (spec_l01In_ )) :=
  fun_ok0 (c := Try.f80.body.getD .skip) (con_spec_l01In (spec_l01In_ )) (gOf []) rfl Try.func80 rfl rfl rfl (gOf_nil) (by kernel_rfl) (by kernel_rfl)
theorem ok_spec_l01In : CtrOK Try.prog 80 (con_spec_l01In fun _ => g_spec_l01In) := (okp_spec_l01In  ).nice e_spec_l01In

theorem okp_spec_OrderOk (spec_l01In : Nat → Int × Int × Int → Option (Bool)) (h80 : CtrOK Try.prog 80 (con_spec_l01In spec_l01In)) : CtrOK Try.prog 41 (con_spec_OrderOk (spec_OrderOk_ spec_l01In )) :=
  fun_ok0 (c := Try.f41.body.getD .skip) (con_spec_OrderOk (spec_OrderOk_ spec_l01In )) (gOf [(80, con_spec_l01In spec_l01In)]) rfl Try.func41 rfl rfl rfl (gOf_cons h80 (gOf_nil)) (by kernel_rfl) (by kernel_rfl)
theorem ok_spec_OrderOk : CtrOK Try.prog 41 (con_spec_OrderOk fun _ => g_spec_OrderOk) := (okp_spec_OrderOk _ ok_spec_l01In).nice e_spec_OrderOk

theorem okp_laws_eqRate : CtrOK Try.prog 77 (con_laws_eqRate (laws_eqRate_ )) :=
  fun_ok0 (c := Try.f77.body.getD .skip) (con_laws_eqRate (laws_eqRate_ )) (gOf []) rfl Try.func77 rfl rfl rfl (gOf_nil) (by kernel_rfl) (by kernel_rfl)
theorem ok_laws_eqRate : CtrOK Try.prog 77 (con_laws_eqRate fun _ => g_laws_eqRate) := (okp_laws_eqRate  ).nice e_laws_eqRate

theorem okp_laws_eqPump (laws_eqRate : Nat → (Int × Int × Int) × (Int × Int × Int) → Option (Bool)) (h77 : CtrOK Try.prog 77 (con_laws_eqRate laws_eqRate)) : CtrOK Try.prog 37 (con_laws_eqPump (laws_eqPump_ laws_eqRate )) :=
  fun_ok0 (c := Try.f37.body.getD .skip) (con_laws_eqPump (laws_eqPump_ laws_eqRate )) (gOf [(77, con_laws_eqRate laws_eqRate)]) rfl Try.func37 rfl rfl rfl (gOf_cons h77 (gOf_nil)) (by kernel_rfl) (by kernel_rfl)
theorem ok_laws_eqPump : CtrOK Try.prog 37 (con_laws_eqPump fun _ => g_laws_eqPump) := (okp_laws_eqPump _ ok_laws_eqRate).nice e_laws_eqPump

theorem okp_laws_toRate : CtrOK Try.prog 76 (con_laws_toRate (laws_toRate_ )) :=
  fun_ok0 (c := Try.f76.body.getD .skip) (con_laws_toRate (laws_toRate_ )) (gOf []) rfl Try.func76 rfl rfl rfl (gOf_nil) (by kernel_rfl) (by kernel_rfl)
theorem ok_laws_toRate : CtrOK Try.prog 76 (con_laws_toRate fun _ => g_laws_toRate) := (okp_laws_toRate  ).nice e_laws_toRate

theorem okp_laws_toPump (laws_toRate : Nat → (Int × Int × Int) → Option ((Int × Int × Int))) (h76 : CtrOK Try.prog 76 (con_laws_toRate laws_toRate)) : CtrOK Try.prog 36 (con_laws_toPump (laws_toPump_ laws_toRate )) :=
  fun_ok0 (c := Try.f36.body.getD .skip) (con_laws_toPump (laws_toPump_ laws_toRate )) (gOf [(76, con_laws_toRate laws_toRate)]) rfl Try.func36 rfl rfl rfl (gOf_cons h76 (gOf_nil)) (by kernel_rfl) (by kernel_rfl)
theorem ok_laws_toPump : CtrOK Try.prog 36 (con_laws_toPump fun _ => g_laws_toPump) := (okp_laws_toPump _ ok_laws_toRate).nice e_laws_toPump

theorem okp_spec_RateOk (spec_l01In : Nat → Int × Int × Int → Option (Bool)) (h80 : CtrOK Try.prog 80 (con_spec_l01In spec_l01In)) : CtrOK Try.prog 94 (con_spec_RateOk (spec_RateOk_ spec_l01In )) :=
  fun_ok0 (c := Try.f94.body.getD .skip) (con_spec_RateOk (spec_RateOk_ spec_l01In )) (gOf [(80, con_spec_l01In spec_l01In)]) rfl Try.func94 rfl rfl rfl (gOf_cons h80 (gOf_nil)) (by kernel_rfl) (by kernel_rfl)
theorem ok_spec_RateOk : CtrOK Try.prog 94 (con_spec_RateOk fun _ => g_spec_RateOk) := (okp_spec_RateOk _ ok_spec_l01In).nice e_spec_RateOk

theorem okp_spec_PumpOk (spec_RateOk : Nat → (Int × Int × Int) → Option (Bool)) (spec_l01In : Nat → Int × Int × Int → Option (Bool)) (h94 : CtrOK Try.prog 94 (con_spec_RateOk spec_RateOk)) (h80 : CtrOK Try.prog 80 (con_spec_l01In spec_l01In)) : CtrOK Try.prog 73 (con_spec_PumpOk (spec_PumpOk_ spec_RateOk spec_l01In )) :=
  fun_ok0 (c := Try.f73.body.getD .skip) (con_spec_PumpOk (spec_PumpOk_ spec_RateOk spec_l01In )) (gOf [(94, con_spec_RateOk spec_RateOk), (80, con_spec_l01In spec_l01In)]) rfl Try.func73 rfl rfl rfl (gOf_cons h94 (gOf_cons h80 (gOf_nil))) (by kernel_rfl) (by kernel_rfl)
theorem ok_spec_PumpOk : CtrOK Try.prog 73 (con_spec_PumpOk fun _ => g_spec_PumpOk) := (okp_spec_PumpOk _ _ ok_spec_RateOk ok_spec_l01In).nice e_spec_PumpOk

theorem okp_laws_toOrder : CtrOK Try.prog 43 (con_laws_toOrder (laws_toOrder_ )) :=
  fun_ok0 (c := Try.f43.body.getD .skip) (con_laws_toOrder (laws_toOrder_ )) (gOf []) rfl Try.func43 rfl rfl rfl (gOf_nil) (by kernel_rfl) (by kernel_rfl)
theorem ok_laws_toOrder : CtrOK Try.prog 43 (con_laws_toOrder fun _ => g_laws_toOrder) := (okp_laws_toOrder  ).nice e_laws_toOrder

theorem okp_spec_Take (spec_OrderOk : Nat → (Int × Int × Int × Int) → Option (Bool)) (spec_PumpOk : Nat → (Int × Int × Int × Int × Int × Int × Int × Int) → Option (Bool)) (h41 : CtrOK Try.prog 41 (con_spec_OrderOk spec_OrderOk)) (h73 : CtrOK Try.prog 73 (con_spec_PumpOk spec_PumpOk)) : CtrOK Try.prog 42 (con_spec_Take (spec_Take_ spec_OrderOk spec_PumpOk )) :=
  fun_ok0 (c := Try.f42.body.getD .skip) (con_spec_Take (spec_Take_ spec_OrderOk spec_PumpOk )) (gOf [(41, con_spec_OrderOk spec_OrderOk), (73, con_spec_PumpOk spec_PumpOk)]) rfl Try.func42 rfl rfl rfl (gOf_cons h41 (gOf_cons h73 (gOf_nil))) (by kernel_rfl) (by kernel_rfl)
theorem ok_spec_Take : CtrOK Try.prog 42 (con_spec_Take fun _ => g_spec_Take) := (okp_spec_Take _ _ ok_spec_OrderOk ok_spec_PumpOk).nice e_spec_Take

theorem okp_laws_FnExactTake (impl_Take : Nat → (Int × Int × Int × Int × Int × Int × Int × Int) × (Int × Int × Int × Int) → Option ((Int × Int × Int × Int × Int × Int × Int × Int) × Bool)) (laws_eqPump : Nat → (Int × Int × Int × Int × Int × Int × Int × Int) × (Int × Int × Int × Int × Int × Int × Int × Int) → Option (Bool)) (laws_toOrder : Nat → (Int × Int × Int × Int) → Option ((Int × Int × Int × Int))) (laws_toPump : Nat → (Int × Int × Int × Int × Int × Int × Int × Int) → Option ((Int × Int × Int × Int × Int × Int × Int × Int))) (spec_Take : Nat → (Int × Int × Int × Int × Int × Int × Int × Int) × (Int × Int × Int × Int) → Option ((Int × Int × Int × Int × Int × Int × Int × Int) × Bool)) (h25 : CtrOK Try.prog 25 (con_impl_Take impl_Take)) (h37 : CtrOK Try.prog 37 (con_laws_eqPump laws_eqPump)) (h43 : CtrOK Try.prog 43 (con_laws_toOrder laws_toOrder)) (h36 : CtrOK Try.prog 36 (con_laws_toPump laws_toPump)) (h42 : CtrOK Try.prog 42 (con_spec_Take spec_Take)) : CtrOK Try.prog 12 (con_laws_FnExactTake (laws_FnExactTake_ impl_Take laws_eqPump laws_toOrder laws_toPump spec_Take )) :=
  fun_ok0 (c := Try.f12.body.getD .skip) (con_laws_FnExactTake (laws_FnExactTake_ impl_Take laws_eqPump laws_toOrder laws_toPump spec_Take )) (gOf [(25, con_impl_Take impl_Take), (37, con_laws_eqPump laws_eqPump), (43, con_laws_toOrder laws_toOrder), (36, con_laws_toPump laws_toPump), (42, con_spec_Take spec_Take)]) rfl Try.func12 rfl rfl rfl (gOf_cons h25 (gOf_cons h37 (gOf_cons h43 (gOf_cons h36 (gOf_cons h42 (gOf_nil)))))) (by kernel_rfl) (by kernel_rfl)
theorem ok_laws_FnExactTake : CtrOK Try.prog 12 (con_laws_FnExactTake fun _ => g_laws_FnExactTake) := (okp_laws_FnExactTake _ _ _ _ _ ok_impl_Take ok_laws_eqPump ok_laws_toOrder ok_laws_toPump ok_spec_Take).nice e_laws_FnExactTake

end Go.Sx.T
