/- Functions of the program as functions of Lean, and that the program keeps to them. -/
import Derived.Test.YtklcjpidbpplkaaFnVolumesA0
import Derived.Test.YtklcjpidbpplkaaProg
set_option maxRecDepth 100000
set_option linter.unusedVariables false
set_option linter.unusedSimpArgs false
namespace Go.Proofs
end Go.Proofs
namespace Go.Sx.T
open Go Go.Sx Go.Proofs Go.RowKit
theorem okp_impl_within : CtrOK Try.prog 82 (con_impl_within (impl_within_ )) :=
  fun_ok0 (c := Try.f82.body.getD .skip) (con_impl_within (impl_within_ )) (gOf []) rfl Try.func82 rfl rfl rfl (gOf_nil) (by kernel_rfl) (by kernel_rfl)
theorem ok_impl_within : CtrOK Try.prog 82 (con_impl_within fun _ => g_impl_within) := (okp_impl_within  ).nice e_impl_within

theorem okp_impl_RateOk (impl_within : Nat → Int × Int × Int → Option (Bool)) (h82 : CtrOK Try.prog 82 (con_impl_within impl_within)) : CtrOK Try.prog 92 (con_impl_RateOk (impl_RateOk_ impl_within )) :=
  fun_ok0 (c := Try.f92.body.getD .skip) (con_impl_RateOk (impl_RateOk_ impl_within )) (gOf [(82, con_impl_within impl_within)]) rfl Try.func92 rfl rfl rfl (gOf_cons h82 (gOf_nil)) (by kernel_rfl) (by kernel_rfl)
theorem ok_impl_RateOk : CtrOK Try.prog 92 (con_impl_RateOk fun _ => g_impl_RateOk) := (okp_impl_RateOk _ ok_impl_within).nice e_impl_RateOk

theorem okp_impl_StepRate (impl_RateOk : Nat → (Int × Int × Int) → Option (Bool)) (h92 : CtrOK Try.prog 92 (con_impl_RateOk impl_RateOk)) : CtrOK Try.prog 65 (con_impl_StepRate (impl_StepRate_ impl_RateOk )) :=
  fun_ok0 (c := Try.f65.body.getD .skip) (con_impl_StepRate (impl_StepRate_ impl_RateOk )) (gOf [(92, con_impl_RateOk impl_RateOk)]) rfl Try.func65 rfl rfl rfl (gOf_cons h92 (gOf_nil)) (by kernel_rfl) (by kernel_rfl)
theorem ok_impl_StepRate : CtrOK Try.prog 65 (con_impl_StepRate fun _ => g_impl_StepRate) := (okp_impl_StepRate _ ok_impl_RateOk).nice e_impl_StepRate

theorem okp_impl_PumpOk (impl_RateOk : Nat → (Int × Int × Int) → Option (Bool)) (impl_within : Nat → Int × Int × Int → Option (Bool)) (h92 : CtrOK Try.prog 92 (con_impl_RateOk impl_RateOk)) (h82 : CtrOK Try.prog 82 (con_impl_within impl_within)) : CtrOK Try.prog 63 (con_impl_PumpOk (impl_PumpOk_ impl_RateOk impl_within )) :=
  fun_ok0 (c := Try.f63.body.getD .skip) (con_impl_PumpOk (impl_PumpOk_ impl_RateOk impl_within )) (gOf [(92, con_impl_RateOk impl_RateOk), (82, con_impl_within impl_within)]) rfl Try.func63 rfl rfl rfl (gOf_cons h92 (gOf_cons h82 (gOf_nil))) (by kernel_rfl) (by kernel_rfl)
theorem ok_impl_PumpOk : CtrOK Try.prog 63 (con_impl_PumpOk fun _ => g_impl_PumpOk) := (okp_impl_PumpOk _ _ ok_impl_RateOk ok_impl_within).nice e_impl_PumpOk

theorem okp_impl_Wants (impl_PumpOk : Nat → (Int × Int × Int × Int × Int × Int × Int × Int) → Option (Bool)) (impl_StepRate : Nat → (Int × Int × Int) → Option ((Int × Int × Int) × Int)) (h63 : CtrOK Try.prog 63 (con_impl_PumpOk impl_PumpOk)) (h65 : CtrOK Try.prog 65 (con_impl_StepRate impl_StepRate)) : CtrOK Try.prog 28 (con_impl_Wants (impl_Wants_ impl_PumpOk impl_StepRate )) :=
  fun_ok0 (c := Try.f28.body.getD .skip) (con_impl_Wants (impl_Wants_ impl_PumpOk impl_StepRate )) (gOf [(63, con_impl_PumpOk impl_PumpOk), (65, con_impl_StepRate impl_StepRate)]) rfl Try.func28 rfl rfl rfl (gOf_cons h63 (gOf_cons h65 (gOf_nil))) (by kernel_rfl) (by kernel_rfl)
theorem ok_impl_Wants : CtrOK Try.prog 28 (con_impl_Wants fun _ => g_impl_Wants) := (okp_impl_Wants _ _ ok_impl_PumpOk ok_impl_StepRate).nice e_impl_Wants

theorem okp_impl_Give (impl_PumpOk : Nat → (Int × Int × Int × Int × Int × Int × Int × Int) → Option (Bool)) (impl_StepRate : Nat → (Int × Int × Int) → Option ((Int × Int × Int) × Int)) (impl_Wants : Nat → (Int × Int × Int × Int × Int × Int × Int × Int) → Option (Int)) (h63 : CtrOK Try.prog 63 (con_impl_PumpOk impl_PumpOk)) (h65 : CtrOK Try.prog 65 (con_impl_StepRate impl_StepRate)) (h28 : CtrOK Try.prog 28 (con_impl_Wants impl_Wants)) : CtrOK Try.prog 27 (con_impl_Give (impl_Give_ impl_PumpOk impl_StepRate impl_Wants )) :=
  fun_ok0 (c := Try.f27.body.getD .skip) (con_impl_Give (impl_Give_ impl_PumpOk impl_StepRate impl_Wants )) (gOf [(63, con_impl_PumpOk impl_PumpOk), (65, con_impl_StepRate impl_StepRate), (28, con_impl_Wants impl_Wants)]) rfl Try.func27 rfl rfl rfl (gOf_cons h63 (gOf_cons h65 (gOf_cons h28 (gOf_nil)))) (by kernel_rfl) (by kernel_rfl)
theorem ok_impl_Give : CtrOK Try.prog 27 (con_impl_Give fun _ => g_impl_Give) := (okp_impl_Give _ _ _ ok_impl_PumpOk ok_impl_StepRate ok_impl_Wants).nice e_impl_Give

theorem okp_impl_OrderOk (impl_within : Nat → Int × Int × Int → Option (Bool)) (h82 : CtrOK Try.prog 82 (con_impl_within impl_within)) : CtrOK Try.prog 64 (con_impl_OrderOk (impl_OrderOk_ impl_within )) :=
  fun_ok0 (c := Try.f64.body.getD .skip) (con_impl_OrderOk (impl_OrderOk_ impl_within )) (gOf [(82, con_impl_within impl_within)]) rfl Try.func64 rfl rfl rfl (gOf_cons h82 (gOf_nil)) (by kernel_rfl) (by kernel_rfl)
theorem ok_impl_OrderOk : CtrOK Try.prog 64 (con_impl_OrderOk fun _ => g_impl_OrderOk) := (okp_impl_OrderOk _ ok_impl_within).nice e_impl_OrderOk

theorem okp_impl_Take (impl_OrderOk : Nat → (Int × Int × Int × Int) → Option (Bool)) (impl_PumpOk : Nat → (Int × Int × Int × Int × Int × Int × Int × Int) → Option (Bool)) (h64 : CtrOK Try.prog 64 (con_impl_OrderOk impl_OrderOk)) (h63 : CtrOK Try.prog 63 (con_impl_PumpOk impl_PumpOk)) : CtrOK Try.prog 25 (con_impl_Take (impl_Take_ impl_OrderOk impl_PumpOk )) :=
  fun_ok0 (c := Try.f25.body.getD .skip) (con_impl_Take (impl_Take_ impl_OrderOk impl_PumpOk )) (gOf [(64, con_impl_OrderOk impl_OrderOk), (63, con_impl_PumpOk impl_PumpOk)]) rfl Try.func25 rfl rfl rfl (gOf_cons h64 (gOf_cons h63 (gOf_nil))) (by kernel_rfl) (by kernel_rfl)
theorem ok_impl_Take : CtrOK Try.prog 25 (con_impl_Take fun _ => g_impl_Take) := (okp_impl_Take _ _ ok_impl_OrderOk ok_impl_PumpOk).nice e_impl_Take

theorem okp_impl_PumpNew : CtrOK Try.prog 26 (con_impl_PumpNew (impl_PumpNew_ )) :=
  fun_ok0 (c := Try.f26.body.getD .skip) (con_impl_PumpNew (impl_PumpNew_ )) (gOf []) rfl Try.func26 rfl rfl rfl (gOf_nil) (by kernel_rfl) (by kernel_rfl)
theorem ok_impl_PumpNew : CtrOK Try.prog 26 (con_impl_PumpNew fun _ => g_impl_PumpNew) := (okp_impl_PumpNew  ).nice e_impl_PumpNew

theorem okp_spec_l01Byte : CtrOK Try.prog 61 (con_spec_l01Byte (spec_l01Byte_ )) :=
  fun_ok0 (c := Try.f61.body.getD .skip) (con_spec_l01Byte (spec_l01Byte_ )) (gOf []) rfl Try.func61 rfl rfl rfl (gOf_nil) (by kernel_rfl) (by kernel_rfl)
theorem ok_spec_l01Byte : CtrOK Try.prog 61 (con_spec_l01Byte fun _ => g_spec_l01Byte) := (okp_spec_l01Byte  ).nice e_spec_l01Byte

theorem okp_spec_l01Below (spec_l01Byte : Nat → (List Int × Int × Int) → Option (Int × (Unit × Int × Int))) (h61 : CtrOK Try.prog 61 (con_spec_l01Byte spec_l01Byte)) : CtrOK Try.prog 62 (con_spec_l01Below (spec_l01Below_ spec_l01Byte )) :=
  fun_ok0 (c := Try.f62.body.getD .skip) (con_spec_l01Below (spec_l01Below_ spec_l01Byte )) (gOf [(61, con_spec_l01Byte spec_l01Byte)]) rfl Try.func62 rfl rfl rfl (gOf_cons h61 (gOf_nil)) (by kernel_rfl) (by kernel_rfl)
theorem ok_spec_l01Below : CtrOK Try.prog 62 (con_spec_l01Below fun _ => g_spec_l01Below) := (okp_spec_l01Below _ ok_spec_l01Byte).nice e_spec_l01Below

def lp_spec_l01New_3 : LP := ⟨[(0, false, [.sl 0]), (3, false, [.int .i64]), (4, false, [.int .i64])], [.ro (.int .u8) 0], 1⟩
theorem okp_spec_l01New : CtrOK Try.prog 52 (con_spec_l01New (spec_l01New_ )) :=
  fun_ok (c := Try.f52.body.getD .skip) (con_spec_l01New (spec_l01New_ )) (gOf []) [] [⟨3, lp_spec_l01New_3, spec_l01New_L3 ⟩] rfl Try.func52 rfl rfl rfl (gOf_nil) (by kernel_rfl) [3] 1 (by kernel_rfl) (by kernel_rfl)
    (fun x => .cons (⟨3, lp_spec_l01New_3, spec_l01New_L3 ⟩ : Lab (OKs [.box [.al 0 0, .int .i64, .int .i64] 114])) rfl rfl (by kernel_rfl) (by kernel_rfl) (.nil _))
theorem ok_spec_l01New : CtrOK Try.prog 52 (con_spec_l01New fun _ => g_spec_l01New) := (okp_spec_l01New  ).nice e_spec_l01New

theorem okp_laws_big : CtrOK Try.prog 14 (con_laws_big (laws_big_ )) :=
  fun_ok0 (c := Try.f14.body.getD .skip) (con_laws_big (laws_big_ )) (gOf []) rfl Try.func14 rfl rfl rfl (gOf_nil) (by kernel_rfl) (by kernel_rfl)
theorem ok_laws_big : CtrOK Try.prog 14 (con_laws_big fun _ => g_laws_big) := (okp_laws_big  ).nice e_laws_big

def lp_spec_DrawPlaces_5 : LP := ⟨[(3, false, [.ptr 1 0]), (4, false, [.sl 2]), (5, false, [.int .i64])], [.ro (.int .u8) 0, .box [.sl 0, .int .i64, .int .i64] 114, .row (.int .i64) 3], 1⟩
theorem okp_spec_DrawPlaces (spec_l01Below : Nat → (List Int × Int × Int) × Int → Option (Int × (Unit × Int × Int))) (spec_l01Byte : Nat → (List Int × Int × Int) → Option (Int × (Unit × Int × Int))) (spec_l01New : Nat → List Int → Option ((Unit × Int × Int))) (h62 : CtrOK Try.prog 62 (con_spec_l01Below spec_l01Below)) (h61 : CtrOK Try.prog 61 (con_spec_l01Byte spec_l01Byte)) (h52 : CtrOK Try.prog 52 (con_spec_l01New spec_l01New)) : CtrOK Try.prog 24 (con_spec_DrawPlaces (spec_DrawPlaces_ spec_l01Below spec_l01Byte spec_l01New )) :=
  fun_ok (c := Try.f24.body.getD .skip) (con_spec_DrawPlaces (spec_DrawPlaces_ spec_l01Below spec_l01Byte spec_l01New )) (gOf [(62, con_spec_l01Below spec_l01Below), (61, con_spec_l01Byte spec_l01Byte), (52, con_spec_l01New spec_l01New)]) [] [⟨5, lp_spec_DrawPlaces_5, spec_DrawPlaces_L5 spec_l01Below spec_l01Byte spec_l01New ⟩] rfl Try.func24 rfl rfl rfl (gOf_cons h62 (gOf_cons h61 (gOf_cons h52 (gOf_nil)))) (by kernel_rfl) [5] 1 (by kernel_rfl) (by kernel_rfl)
    (fun x => .cons (⟨5, lp_spec_DrawPlaces_5, spec_DrawPlaces_L5 spec_l01Below spec_l01Byte spec_l01New ⟩ : Lab (OKs [.v false [.own (.int .i64) 3]])) rfl rfl (by kernel_rfl) (by kernel_rfl) (.nil _))
theorem ok_spec_DrawPlaces : CtrOK Try.prog 24 (con_spec_DrawPlaces fun _ => g_spec_DrawPlaces) := (okp_spec_DrawPlaces _ _ _ ok_spec_l01Below ok_spec_l01Byte ok_spec_l01New).nice e_spec_DrawPlaces

def lp_laws_FnVolumes_8 : LP := ⟨[(4, false, [.ptr 1 0]), (5, false, [.ptr 2 0]), (6, false, [.bool]), (7, false, [.int .i64])], [.dead, .box [.int .i64, .int .i64, .int .i64, .int .i64] 55, .box [.int .i64, .int .i64, .int .i64, .int .i64, .int .i64, .int .i64, .int .i64, .int .i64] 27], 1⟩
theorem okp_laws_FnVolumes (impl_Give : Nat → (Int × Int × Int × Int × Int × Int × Int × Int) × Int → Option ((Int × Int × Int × Int × Int × Int × Int × Int))) (impl_PumpNew : Nat → Unit → Option ((Int × Int × Int × Int × Int × Int × Int × Int))) (impl_Take : Nat → (Int × Int × Int × Int × Int × Int × Int × Int) × (Int × Int × Int × Int) → Option ((Int × Int × Int × Int × Int × Int × Int × Int) × Bool)) (impl_Wants : Nat → (Int × Int × Int × Int × Int × Int × Int × Int) → Option (Int)) (laws_big : Nat → List Int → Option (Bool)) (spec_DrawPlaces : Nat → List Int → Option (List Int)) (h27 : CtrOK Try.prog 27 (con_impl_Give impl_Give)) (h26 : CtrOK Try.prog 26 (con_impl_PumpNew impl_PumpNew)) (h25 : CtrOK Try.prog 25 (con_impl_Take impl_Take)) (h28 : CtrOK Try.prog 28 (con_impl_Wants impl_Wants)) (h14 : CtrOK Try.prog 14 (con_laws_big laws_big)) (h24 : CtrOK Try.prog 24 (con_spec_DrawPlaces spec_DrawPlaces)) : CtrOK Try.prog 7 (con_laws_FnVolumes (laws_FnVolumes_ impl_Give impl_PumpNew impl_Take impl_Wants laws_big spec_DrawPlaces )) :=
  fun_ok (c := Try.f7.body.getD .skip) (con_laws_FnVolumes (laws_FnVolumes_ impl_Give impl_PumpNew impl_Take impl_Wants laws_big spec_DrawPlaces )) (gOf [(27, con_impl_Give impl_Give), (26, con_impl_PumpNew impl_PumpNew), (25, con_impl_Take impl_Take), (28, con_impl_Wants impl_Wants), (14, con_laws_big laws_big), (24, con_spec_DrawPlaces spec_DrawPlaces)]) [] [⟨8, lp_laws_FnVolumes_8, laws_FnVolumes_L8 impl_Give impl_PumpNew impl_Take impl_Wants laws_big spec_DrawPlaces ⟩] rfl Try.func7 rfl rfl rfl (gOf_cons h27 (gOf_cons h26 (gOf_cons h25 (gOf_cons h28 (gOf_cons h14 (gOf_cons h24 (gOf_nil))))))) (by kernel_rfl) [8] 1 (by kernel_rfl) (by kernel_rfl)
    (fun x => .cons (⟨8, lp_laws_FnVolumes_8, laws_FnVolumes_L8 impl_Give impl_PumpNew impl_Take impl_Wants laws_big spec_DrawPlaces ⟩ : Lab (OKs [.v false [.bool]])) rfl rfl (by kernel_rfl) (by kernel_rfl) (.nil _))
theorem ok_laws_FnVolumes : CtrOK Try.prog 7 (con_laws_FnVolumes fun _ => g_laws_FnVolumes) := (okp_laws_FnVolumes _ _ _ _ _ _ ok_impl_Give ok_impl_PumpNew ok_impl_Take ok_impl_Wants ok_laws_big ok_spec_DrawPlaces).nice e_laws_FnVolumes

end Go.Sx.T
