/- Functions of the program as functions of Lean, and that the program keeps to them. -/
import Derived.Test.YtklcjpidbpplkaaFnTypedA0
import Derived.Test.YtklcjpidbpplkaaProg
set_option maxRecDepth 100000
set_option linter.unusedVariables false
set_option linter.unusedSimpArgs false
namespace Go.Proofs
end Go.Proofs
namespace Go.Sx.T
open Go Go.Sx Go.Proofs Go.RowKit
theorem okp_impl_within : CtrOK Try.prog 82 (con_impl_within (impl_within_ )) :=
  fun_ok0 (c := Try.f82.body.getD .skip) (con_impl_within (impl_within_ )) (gOf []) rfl Try.func82 rfl rfl rfl (gOf_nil) (by kernel_rfl) (by kernel_rfl)
theorem ok_impl_within : CtrOK Try.prog 82 (con_impl_within fun _ => g_impl_within) := (okp_impl_within  ).nice e_impl_within

theorem okp_impl_OrderOk (impl_within : Nat → Int × Int × Int → Option (Bool)) (h82 : CtrOK Try.prog 82 (con_impl_within impl_within)) : CtrOK Try.prog 64 (con_impl_OrderOk (impl_OrderOk_ impl_within )) :=
  fun_ok0 (c := Try.f64.body.getD .skip) (con_impl_OrderOk (impl_OrderOk_ impl_within )) (gOf [(82, con_impl_within impl_within)]) rfl Try.func64 rfl rfl rfl (gOf_cons h82 (gOf_nil)) (by kernel_rfl) (by kernel_rfl)
theorem ok_impl_OrderOk : CtrOK Try.prog 64 (con_impl_OrderOk fun _ => g_impl_OrderOk) := (okp_impl_OrderOk _ ok_impl_within).nice e_impl_OrderOk

theorem okp_impl_MenuNew : CtrOK Try.prog 40 (con_impl_MenuNew (impl_MenuNew_ )) :=
  fun_ok0 (c := Try.f40.body.getD .skip) (con_impl_MenuNew (impl_MenuNew_ )) (gOf []) rfl Try.func40 rfl rfl rfl (gOf_nil) (by kernel_rfl) (by kernel_rfl)
theorem ok_impl_MenuNew : CtrOK Try.prog 40 (con_impl_MenuNew fun _ => g_impl_MenuNew) := (okp_impl_MenuNew  ).nice e_impl_MenuNew

def lp_impl_typed_3 : LP := ⟨[(0, false, [.str]), (3, false, [.int .i64]), (6, false, [.int .i64]), (7, false, [.int .i64])], [], 0⟩
theorem okp_impl_typed : CtrOK Try.prog 107 (con_impl_typed (impl_typed_ )) :=
  fun_ok (c := Try.f107.body.getD .skip) (con_impl_typed (impl_typed_ )) (gOf []) [] [⟨3, lp_impl_typed_3, impl_typed_L3 ⟩] rfl Try.func107 rfl rfl rfl (gOf_nil) (by kernel_rfl) [3] 0 (by kernel_rfl) (by kernel_rfl)
    (fun x => .cons (⟨3, lp_impl_typed_3, impl_typed_L3 ⟩ : Lab (OKs [.v false [.int .i64]])) rfl rfl (by kernel_rfl) (by kernel_rfl) (.nil _))
theorem ok_impl_typed : CtrOK Try.prog 107 (con_impl_typed fun _ => g_impl_typed) := (okp_impl_typed  ).nice e_impl_typed

theorem okp_impl_Menu__enter (impl_MenuNew : Nat → Unit → Option ((Int × Bool × Int × Int × ByteArray))) (impl_OrderOk : Nat → (Int × Int × Int × Int) → Option (Bool)) (impl_typed : Nat → ByteArray → Option (Int)) (h40 : CtrOK Try.prog 40 (con_impl_MenuNew impl_MenuNew)) (h64 : CtrOK Try.prog 64 (con_impl_OrderOk impl_OrderOk)) (h107 : CtrOK Try.prog 107 (con_impl_typed impl_typed)) : CtrOK Try.prog 97 (con_impl_Menu__enter (impl_Menu__enter_ impl_MenuNew impl_OrderOk impl_typed )) :=
  fun_ok0 (c := Try.f97.body.getD .skip) (con_impl_Menu__enter (impl_Menu__enter_ impl_MenuNew impl_OrderOk impl_typed )) (gOf [(40, con_impl_MenuNew impl_MenuNew), (64, con_impl_OrderOk impl_OrderOk), (107, con_impl_typed impl_typed)]) rfl Try.func97 rfl rfl rfl (gOf_cons h40 (gOf_cons h64 (gOf_cons h107 (gOf_nil)))) (by kernel_rfl) (by kernel_rfl)
theorem ok_impl_Menu__enter : CtrOK Try.prog 97 (con_impl_Menu__enter fun _ => g_impl_Menu__enter) := (okp_impl_Menu__enter _ _ _ ok_impl_MenuNew ok_impl_OrderOk ok_impl_typed).nice e_impl_Menu__enter

theorem okp_impl_Menu__top : CtrOK Try.prog 96 (con_impl_Menu__top (impl_Menu__top_ )) :=
  fun_ok0 (c := Try.f96.body.getD .skip) (con_impl_Menu__top (impl_Menu__top_ )) (gOf []) rfl Try.func96 rfl rfl rfl (gOf_nil) (by kernel_rfl) (by kernel_rfl)
theorem ok_impl_Menu__top : CtrOK Try.prog 96 (con_impl_Menu__top fun _ => g_impl_Menu__top) := (okp_impl_Menu__top  ).nice e_impl_Menu__top

def lp_impl_MenuOk_2 : LP := ⟨[(1, false, [.ptr 0 0]), (6, false, [.int .i64]), (7, false, [.int .i64])], [.box [.int .i64, .bool, .int .i64, .int .i64, .str] 32], 0⟩
theorem okp_impl_MenuOk (impl_MenuNew : Nat → Unit → Option ((Int × Bool × Int × Int × ByteArray))) (impl_within : Nat → Int × Int × Int → Option (Bool)) (h40 : CtrOK Try.prog 40 (con_impl_MenuNew impl_MenuNew)) (h82 : CtrOK Try.prog 82 (con_impl_within impl_within)) : CtrOK Try.prog 95 (con_impl_MenuOk (impl_MenuOk_ impl_MenuNew impl_within )) :=
  fun_ok (c := Try.f95.body.getD .skip) (con_impl_MenuOk (impl_MenuOk_ impl_MenuNew impl_within )) (gOf [(40, con_impl_MenuNew impl_MenuNew), (82, con_impl_within impl_within)]) [] [⟨2, lp_impl_MenuOk_2, impl_MenuOk_L2 impl_MenuNew impl_within ⟩] rfl Try.func95 rfl rfl rfl (gOf_cons h40 (gOf_cons h82 (gOf_nil))) (by kernel_rfl) [2] 0 (by kernel_rfl) (by kernel_rfl)
    (fun x => .cons (⟨2, lp_impl_MenuOk_2, impl_MenuOk_L2 impl_MenuNew impl_within ⟩ : Lab (OKs [.v false [.bool]])) rfl rfl (by kernel_rfl) (by kernel_rfl) (.nil _))
theorem ok_impl_MenuOk : CtrOK Try.prog 95 (con_impl_MenuOk fun _ => g_impl_MenuOk) := (okp_impl_MenuOk _ _ ok_impl_MenuNew ok_impl_within).nice e_impl_MenuOk

theorem okp_impl_Press (impl_MenuNew : Nat → Unit → Option ((Int × Bool × Int × Int × ByteArray))) (impl_MenuOk : Nat → (Int × Bool × Int × Int × ByteArray) → Option (Bool)) (impl_Menu__enter : Nat → (Int × Bool × Int × Int × ByteArray) → Option ((Int × Bool × Int × Int × ByteArray) × (Int × Int × Int × Int) × Bool)) (impl_Menu__top : Nat → (Int × Bool × Int × Int × ByteArray) × Int → Option ((Int × Bool × Int × Int × ByteArray) × (Int × Int × Int × Int) × Bool)) (impl_within : Nat → Int × Int × Int → Option (Bool)) (h40 : CtrOK Try.prog 40 (con_impl_MenuNew impl_MenuNew)) (h95 : CtrOK Try.prog 95 (con_impl_MenuOk impl_MenuOk)) (h97 : CtrOK Try.prog 97 (con_impl_Menu__enter impl_Menu__enter)) (h96 : CtrOK Try.prog 96 (con_impl_Menu__top impl_Menu__top)) (h82 : CtrOK Try.prog 82 (con_impl_within impl_within)) : CtrOK Try.prog 79 (con_impl_Press (impl_Press_ impl_MenuNew impl_MenuOk impl_Menu__enter impl_Menu__top impl_within )) :=
  fun_ok0 (c := Try.f79.body.getD .skip) (con_impl_Press (impl_Press_ impl_MenuNew impl_MenuOk impl_Menu__enter impl_Menu__top impl_within )) (gOf [(40, con_impl_MenuNew impl_MenuNew), (95, con_impl_MenuOk impl_MenuOk), (97, con_impl_Menu__enter impl_Menu__enter), (96, con_impl_Menu__top impl_Menu__top), (82, con_impl_within impl_within)]) rfl Try.func79 rfl rfl rfl (gOf_cons h40 (gOf_cons h95 (gOf_cons h97 (gOf_cons h96 (gOf_cons h82 (gOf_nil)))))) (by kernel_rfl) (by kernel_rfl)
theorem ok_impl_Press : CtrOK Try.prog 79 (con_impl_Press fun _ => g_impl_Press) := (okp_impl_Press _ _ _ _ _ ok_impl_MenuNew ok_impl_MenuOk ok_impl_Menu__enter ok_impl_Menu__top ok_impl_within).nice e_impl_Press

def lp_impl_PressAll_3 : LP := ⟨[(1, false, [.str]), (2, false, [.ptr 0 0]), (4, false, [.ptr 1 0]), (6, false, [.sl 2]), (13, false, [.int .i64]), (14, false, [.int .i64])], [.box [.int .i64, .bool, .int .i64, .int .i64, .str] 32, .box [.int .i64, .bool, .int .i64, .int .i64, .str] 32, .row (.pair (.int .i64) (.pair (.int .i64) (.pair (.int .i64) (.int .i64)))) 55], 0⟩
theorem okp_impl_PressAll (impl_Press : Nat → (Int × Bool × Int × Int × ByteArray) × Int → Option ((Int × Bool × Int × Int × ByteArray) × (Int × Int × Int × Int) × Bool)) (h79 : CtrOK Try.prog 79 (con_impl_Press impl_Press)) : CtrOK Try.prog 39 (con_impl_PressAll (impl_PressAll_ impl_Press )) :=
  fun_ok (c := Try.f39.body.getD .skip) (con_impl_PressAll (impl_PressAll_ impl_Press )) (gOf [(79, con_impl_Press impl_Press)]) [] [⟨3, lp_impl_PressAll_3, impl_PressAll_L3 impl_Press ⟩] rfl Try.func39 rfl rfl rfl (gOf_cons h79 (gOf_nil)) (by kernel_rfl) [3] 0 (by kernel_rfl) (by kernel_rfl)
    (fun x => .cons (⟨3, lp_impl_PressAll_3, impl_PressAll_L3 impl_Press ⟩ : Lab (OKs [.v true [.int .i64, .bool, .int .i64, .int .i64, .str], .v false [.own (.pair (.int .i64) (.pair (.int .i64) (.pair (.int .i64) (.int .i64)))) 55]])) rfl rfl (by kernel_rfl) (by kernel_rfl) (.nil _))
theorem ok_impl_PressAll : CtrOK Try.prog 39 (con_impl_PressAll fun _ => g_impl_PressAll) := (okp_impl_PressAll _ ok_impl_Press).nice e_impl_PressAll

theorem okp_spec_l01Byte : CtrOK Try.prog 61 (con_spec_l01Byte (spec_l01Byte_ )) :=
  fun_ok0 (c := Try.f61.body.getD .skip) (con_spec_l01Byte (spec_l01Byte_ )) (gOf []) rfl Try.func61 rfl rfl rfl (gOf_nil) (by kernel_rfl) (by kernel_rfl)
theorem ok_spec_l01Byte : CtrOK Try.prog 61 (con_spec_l01Byte fun _ => g_spec_l01Byte) := (okp_spec_l01Byte  ).nice e_spec_l01Byte

theorem okp_spec_l01Below (spec_l01Byte : Nat → (List Int × Int × Int) → Option (Int × (Unit × Int × Int))) (h61 : CtrOK Try.prog 61 (con_spec_l01Byte spec_l01Byte)) : CtrOK Try.prog 62 (con_spec_l01Below (spec_l01Below_ spec_l01Byte )) :=
  fun_ok0 (c := Try.f62.body.getD .skip) (con_spec_l01Below (spec_l01Below_ spec_l01Byte )) (gOf [(61, con_spec_l01Byte spec_l01Byte)]) rfl Try.func62 rfl rfl rfl (gOf_cons h61 (gOf_nil)) (by kernel_rfl) (by kernel_rfl)
theorem ok_spec_l01Below : CtrOK Try.prog 62 (con_spec_l01Below fun _ => g_spec_l01Below) := (okp_spec_l01Below _ ok_spec_l01Byte).nice e_spec_l01Below

theorem okp_spec_l01In : CtrOK Try.prog 80 (con_spec_l01In (spec_l01In_ )) :=
  fun_ok0 (c := Try.f80.body.getD .skip) (con_spec_l01In (spec_l01In_ )) (gOf []) rfl Try.func80 rfl rfl rfl (gOf_nil) (by kernel_rfl) (by kernel_rfl)
theorem ok_spec_l01In : CtrOK Try.prog 80 (con_spec_l01In fun _ => g_spec_l01In) := (okp_spec_l01In  ).nice e_spec_l01In

theorem okp_spec_OrderOk (spec_l01In : Nat → Int × Int × Int → Option (Bool)) (h80 : CtrOK Try.prog 80 (con_spec_l01In spec_l01In)) : CtrOK Try.prog 41 (con_spec_OrderOk (spec_OrderOk_ spec_l01In )) :=
  fun_ok0 (c := Try.f41.body.getD .skip) (con_spec_OrderOk (spec_OrderOk_ spec_l01In )) (gOf [(80, con_spec_l01In spec_l01In)]) rfl Try.func41 rfl rfl rfl (gOf_cons h80 (gOf_nil)) (by kernel_rfl) (by kernel_rfl)
theorem ok_spec_OrderOk : CtrOK Try.prog 41 (con_spec_OrderOk fun _ => g_spec_OrderOk) := (okp_spec_OrderOk _ ok_spec_l01In).nice e_spec_OrderOk

def lp_spec_l01New_3 : LP := ⟨[(0, false, [.sl 0]), (3, false, [.int .i64]), (4, false, [.int .i64])], [.ro (.int .u8) 0], 1⟩
theorem okp_spec_l01New : CtrOK Try.prog 52 (con_spec_l01New (spec_l01New_ )) :=
  fun_ok (c := Try.f52.body.getD .skip) (con_spec_l01New (spec_l01New_ )) (gOf []) [] [⟨3, lp_spec_l01New_3, spec_l01New_L3 ⟩] rfl Try.func52 rfl rfl rfl (gOf_nil) (by kernel_rfl) [3] 1 (by kernel_rfl) (by kernel_rfl)
    (fun x => .cons (⟨3, lp_spec_l01New_3, spec_l01New_L3 ⟩ : Lab (OKs [.box [.al 0 0, .int .i64, .int .i64] 114])) rfl rfl (by kernel_rfl) (by kernel_rfl) (.nil _))
theorem ok_spec_l01New : CtrOK Try.prog 52 (con_spec_l01New fun _ => g_spec_l01New) := (okp_spec_l01New  ).nice e_spec_l01New

theorem okp_laws_big : CtrOK Try.prog 14 (con_laws_big (laws_big_ )) :=
  fun_ok0 (c := Try.f14.body.getD .skip) (con_laws_big (laws_big_ )) (gOf []) rfl Try.func14 rfl rfl rfl (gOf_nil) (by kernel_rfl) (by kernel_rfl)
theorem ok_laws_big : CtrOK Try.prog 14 (con_laws_big fun _ => g_laws_big) := (okp_laws_big  ).nice e_laws_big

def lp_spec_DrawPlaces_5 : LP := ⟨[(3, false, [.ptr 1 0]), (4, false, [.sl 2]), (5, false, [.int .i64])], [.ro (.int .u8) 0, .box [.sl 0, .int .i64, .int .i64] 114, .row (.int .i64) 3], 1⟩
theorem okp_spec_DrawPlaces (spec_l01Below : Nat → (List Int × Int × Int) × Int → Option (Int × (Unit × Int × Int))) (spec_l01Byte : Nat → (List Int × Int × Int) → Option (Int × (Unit × Int × Int))) (spec_l01New : Nat → List Int → Option ((Unit × Int × Int))) (h62 : CtrOK Try.prog 62 (con_spec_l01Below spec_l01Below)) (h61 : CtrOK Try.prog 61 (con_spec_l01Byte spec_l01Byte)) (h52 : CtrOK Try.prog 52 (con_spec_l01New spec_l01New)) : CtrOK Try.prog 24 (con_spec_DrawPlaces (spec_DrawPlaces_ spec_l01Below spec_l01Byte spec_l01New )) :=
  fun_ok (c := Try.f24.body.getD .skip) (con_spec_DrawPlaces (spec_DrawPlaces_ spec_l01Below spec_l01Byte spec_l01New )) (gOf [(62, con_spec_l01Below spec_l01Below), (61, con_spec_l01Byte spec_l01Byte), (52, con_spec_l01New spec_l01New)]) [] [⟨5, lp_spec_DrawPlaces_5, spec_DrawPlaces_L5 spec_l01Below spec_l01Byte spec_l01New ⟩] rfl Try.func24 rfl rfl rfl (gOf_cons h62 (gOf_cons h61 (gOf_cons h52 (gOf_nil)))) (by kernel_rfl) [5] 1 (by kernel_rfl) (by kernel_rfl)
    (fun x => .cons (⟨5, lp_spec_DrawPlaces_5, spec_DrawPlaces_L5 spec_l01Below spec_l01Byte spec_l01New ⟩ : Lab (OKs [.v false [.own (.int .i64) 3]])) rfl rfl (by kernel_rfl) (by kernel_rfl) (.nil _))
theorem ok_spec_DrawPlaces : CtrOK Try.prog 24 (con_spec_DrawPlaces fun _ => g_spec_DrawPlaces) := (okp_spec_DrawPlaces _ _ _ ok_spec_l01Below ok_spec_l01Byte ok_spec_l01New).nice e_spec_DrawPlaces

theorem okp_spec_l01Figure : CtrOK Try.prog 78 (con_spec_l01Figure (spec_l01Figure_ )) :=
  fun_ok0 (c := Try.f78.body.getD .skip) (con_spec_l01Figure (spec_l01Figure_ )) (gOf []) rfl Try.func78 rfl rfl rfl (gOf_nil) (by kernel_rfl) (by kernel_rfl)
theorem ok_spec_l01Figure : CtrOK Try.prog 78 (con_spec_l01Figure fun _ => g_spec_l01Figure) := (okp_spec_l01Figure  ).nice e_spec_l01Figure

def lp_spec_Decimal_5 : LP := ⟨[(0, false, [.int .i64]), (3, false, [.bool]), (4, false, [.str])], [], 0⟩
theorem okp_spec_Decimal (spec_l01Figure : Nat → Int → Option (Int)) (h78 : CtrOK Try.prog 78 (con_spec_l01Figure spec_l01Figure)) : CtrOK Try.prog 38 (con_spec_Decimal (spec_Decimal_ spec_l01Figure )) :=
  fun_ok (c := Try.f38.body.getD .skip) (con_spec_Decimal (spec_Decimal_ spec_l01Figure )) (gOf [(78, con_spec_l01Figure spec_l01Figure)]) [] [⟨5, lp_spec_Decimal_5, spec_Decimal_L5 spec_l01Figure ⟩] rfl Try.func38 rfl rfl rfl (gOf_cons h78 (gOf_nil)) (by kernel_rfl) [5] 0 (by kernel_rfl) (by kernel_rfl)
    (fun x => .cons (⟨5, lp_spec_Decimal_5, spec_Decimal_L5 spec_l01Figure ⟩ : Lab (OKs [.v false [.str]])) rfl rfl (by kernel_rfl) (by kernel_rfl) (.nil _))
theorem ok_spec_Decimal : CtrOK Try.prog 38 (con_spec_Decimal fun _ => g_spec_Decimal) := (okp_spec_Decimal _ ok_spec_l01Figure).nice e_spec_Decimal

theorem okp_laws_FnTyped (impl_MenuNew : Nat → Unit → Option ((Int × Bool × Int × Int × ByteArray))) (impl_PressAll : Nat → (Int × Bool × Int × Int × ByteArray) × ByteArray → Option ((Int × Bool × Int × Int × ByteArray) × ((List (Int × (Int × (Int × Int))))))) (laws_big : Nat → List Int → Option (Bool)) (spec_Decimal : Nat → Int → Option (ByteArray)) (spec_DrawPlaces : Nat → List Int → Option (List Int)) (spec_OrderOk : Nat → (Int × Int × Int × Int) → Option (Bool)) (h40 : CtrOK Try.prog 40 (con_impl_MenuNew impl_MenuNew)) (h39 : CtrOK Try.prog 39 (con_impl_PressAll impl_PressAll)) (h14 : CtrOK Try.prog 14 (con_laws_big laws_big)) (h38 : CtrOK Try.prog 38 (con_spec_Decimal spec_Decimal)) (h24 : CtrOK Try.prog 24 (con_spec_DrawPlaces spec_DrawPlaces)) (h41 : CtrOK Try.prog 41 (con_spec_OrderOk spec_OrderOk)) : CtrOK Try.prog 11 (con_laws_FnTyped (laws_FnTyped_ impl_MenuNew impl_PressAll laws_big spec_Decimal spec_DrawPlaces spec_OrderOk )) :=
  fun_ok0 (c := Try.f11.body.getD .skip) (con_laws_FnTyped (laws_FnTyped_ impl_MenuNew impl_PressAll laws_big spec_Decimal spec_DrawPlaces spec_OrderOk )) (gOf [(40, con_impl_MenuNew impl_MenuNew), (39, con_impl_PressAll impl_PressAll), (14, con_laws_big laws_big), (38, con_spec_Decimal spec_Decimal), (24, con_spec_DrawPlaces spec_DrawPlaces), (41, con_spec_OrderOk spec_OrderOk)]) rfl Try.func11 rfl rfl rfl (gOf_cons h40 (gOf_cons h39 (gOf_cons h14 (gOf_cons h38 (gOf_cons h24 (gOf_cons h41 (gOf_nil))))))) (by kernel_rfl) (by kernel_rfl)
theorem ok_laws_FnTyped : CtrOK Try.prog 11 (con_laws_FnTyped fun _ => g_laws_FnTyped) := (okp_laws_FnTyped _ _ _ _ _ _ ok_impl_MenuNew ok_impl_PressAll ok_laws_big ok_spec_Decimal ok_spec_DrawPlaces ok_spec_OrderOk).nice e_laws_FnTyped

end Go.Sx.T
