/- Functions of the program as functions of Lean, and that the program keeps to them. -/
import Derived.Test.YthimkepabblloaaFnMenusA0
import Derived.Test.YthimkepabblloaaProg
set_option maxRecDepth 100000
set_option linter.unusedVariables false
set_option linter.unusedSimpArgs false
namespace Go.Proofs
end Go.Proofs
namespace Go.Sx.T
open Go Go.Sx Go.Proofs Go.RowKit
theorem okp_impl_MenuNew : CtrOK Try.prog 31 (con_impl_MenuNew (impl_MenuNew_ )) :=
  fun_ok0 (c := Try.f31.body.getD .skip) (con_impl_MenuNew (impl_MenuNew_ )) (gOf []) rfl Try.func31 rfl rfl rfl (gOf_nil) (by kernel_rfl) (by kernel_rfl)
theorem ok_impl_MenuNew : CtrOK Try.prog 31 (con_impl_MenuNew fun _ => g_impl_MenuNew) := (okp_impl_MenuNew  ).nice e_impl_MenuNew

theorem okp_spec_MenuNew : CtrOK Try.prog 33 (con_spec_MenuNew (spec_MenuNew_ )) :=
  fun_ok0 (c := Try.f33.body.getD .skip) (con_spec_MenuNew (spec_MenuNew_ )) (gOf []) rfl Try.func33 rfl rfl rfl (gOf_nil) (by kernel_rfl) (by kernel_rfl)
theorem ok_spec_MenuNew : CtrOK Try.prog 33 (con_spec_MenuNew fun _ => g_spec_MenuNew) := (okp_spec_MenuNew  ).nice e_spec_MenuNew

theorem okp_impl_within : CtrOK Try.prog 81 (con_impl_within (impl_within_ )) :=
  fun_ok0 (c := Try.f81.body.getD .skip) (con_impl_within (impl_within_ )) (gOf []) rfl Try.func81 rfl rfl rfl (gOf_nil) (by kernel_rfl) (by kernel_rfl)
theorem ok_impl_within : CtrOK Try.prog 81 (con_impl_within fun _ => g_impl_within) := (okp_impl_within  ).nice e_impl_within

theorem okp_impl_OrderOk (impl_within : Nat → Int × Int × Int → Option (Bool)) (h81 : CtrOK Try.prog 81 (con_impl_within impl_within)) : CtrOK Try.prog 35 (con_impl_OrderOk (impl_OrderOk_ impl_within )) :=
  fun_ok0 (c := Try.f35.body.getD .skip) (con_impl_OrderOk (impl_OrderOk_ impl_within )) (gOf [(81, con_impl_within impl_within)]) rfl Try.func35 rfl rfl rfl (gOf_cons h81 (gOf_nil)) (by kernel_rfl) (by kernel_rfl)
theorem ok_impl_OrderOk : CtrOK Try.prog 35 (con_impl_OrderOk fun _ => g_impl_OrderOk) := (okp_impl_OrderOk _ ok_impl_within).nice e_impl_OrderOk

theorem okp_spec_l01In : CtrOK Try.prog 88 (con_spec_l01In (spec_l01In_ )) :=
  fun_ok0 (c := Try.f88.body.getD .skip) (con_spec_l01In (spec_l01In_ )) (gOf []) rfl Try.func88 rfl rfl rfl (gOf_nil) (by kernel_rfl) (by kernel_rfl)
theorem ok_spec_l01In : CtrOK Try.prog 88 (con_spec_l01In fun _ => g_spec_l01In) := (okp_spec_l01In  ).nice e_spec_l01In

theorem okp_spec_OrderOk (spec_l01In : Nat → Int × Int × Int → Option (Bool)) (h88 : CtrOK Try.prog 88 (con_spec_l01In spec_l01In)) : CtrOK Try.prog 58 (con_spec_OrderOk (spec_OrderOk_ spec_l01In )) :=
  fun_ok0 (c := Try.f58.body.getD .skip) (con_spec_OrderOk (spec_OrderOk_ spec_l01In )) (gOf [(88, con_spec_l01In spec_l01In)]) rfl Try.func58 rfl rfl rfl (gOf_cons h88 (gOf_nil)) (by kernel_rfl) (by kernel_rfl)
theorem ok_spec_OrderOk : CtrOK Try.prog 58 (con_spec_OrderOk fun _ => g_spec_OrderOk) := (okp_spec_OrderOk _ ok_spec_l01In).nice e_spec_OrderOk

def lp_impl_typed_3 : LP := ⟨[(0, false, [.str]), (3, false, [.int .i64]), (6, false, [.int .i64]), (7, false, [.int .i64])], [], 0⟩
theorem okp_impl_typed : CtrOK Try.prog 128 (con_impl_typed (impl_typed_ )) :=
  fun_ok (c := Try.f128.body.getD .skip) (con_impl_typed (impl_typed_ )) (gOf []) [] [⟨3, lp_impl_typed_3, impl_typed_L3 ⟩] rfl Try.func128 rfl rfl rfl (gOf_nil) (by kernel_rfl) [3] 0 (by kernel_rfl) (by kernel_rfl)
    (fun x => .cons (⟨3, lp_impl_typed_3, impl_typed_L3 ⟩ : Lab (OKs [.v false [.int .i64]])) rfl rfl (by kernel_rfl) (by kernel_rfl) (.nil _))
theorem ok_impl_typed : CtrOK Try.prog 128 (con_impl_typed fun _ => g_impl_typed) := (okp_impl_typed  ).nice e_impl_typed

theorem okp_impl_Menu__enter (impl_MenuNew : Nat → Unit → Option ((Int × Bool × Int × Int × ByteArray))) (impl_OrderOk : Nat → (Int × Int × Int × Int) → Option (Bool)) (impl_typed : Nat → ByteArray → Option (Int)) (h31 : CtrOK Try.prog 31 (con_impl_MenuNew impl_MenuNew)) (h35 : CtrOK Try.prog 35 (con_impl_OrderOk impl_OrderOk)) (h128 : CtrOK Try.prog 128 (con_impl_typed impl_typed)) : CtrOK Try.prog 80 (con_impl_Menu__enter (impl_Menu__enter_ impl_MenuNew impl_OrderOk impl_typed )) :=
  fun_ok0 (c := Try.f80.body.getD .skip) (con_impl_Menu__enter (impl_Menu__enter_ impl_MenuNew impl_OrderOk impl_typed )) (gOf [(31, con_impl_MenuNew impl_MenuNew), (35, con_impl_OrderOk impl_OrderOk), (128, con_impl_typed impl_typed)]) rfl Try.func80 rfl rfl rfl (gOf_cons h31 (gOf_cons h35 (gOf_cons h128 (gOf_nil)))) (by kernel_rfl) (by kernel_rfl)
theorem ok_impl_Menu__enter : CtrOK Try.prog 80 (con_impl_Menu__enter fun _ => g_impl_Menu__enter) := (okp_impl_Menu__enter _ _ _ ok_impl_MenuNew ok_impl_OrderOk ok_impl_typed).nice e_impl_Menu__enter

theorem okp_impl_Menu__top : CtrOK Try.prog 79 (con_impl_Menu__top (impl_Menu__top_ )) :=
  fun_ok0 (c := Try.f79.body.getD .skip) (con_impl_Menu__top (impl_Menu__top_ )) (gOf []) rfl Try.func79 rfl rfl rfl (gOf_nil) (by kernel_rfl) (by kernel_rfl)
theorem ok_impl_Menu__top : CtrOK Try.prog 79 (con_impl_Menu__top fun _ => g_impl_Menu__top) := (okp_impl_Menu__top  ).nice e_impl_Menu__top

def lp_impl_MenuOk_2 : LP := ⟨[(1, false, [.ptr 0 0]), (6, false, [.int .i64]), (7, false, [.int .i64])], [.box [.int .i64, .bool, .int .i64, .int .i64, .str] 30], 0⟩
theorem okp_impl_MenuOk (impl_MenuNew : Nat → Unit → Option ((Int × Bool × Int × Int × ByteArray))) (impl_within : Nat → Int × Int × Int → Option (Bool)) (h31 : CtrOK Try.prog 31 (con_impl_MenuNew impl_MenuNew)) (h81 : CtrOK Try.prog 81 (con_impl_within impl_within)) : CtrOK Try.prog 36 (con_impl_MenuOk (impl_MenuOk_ impl_MenuNew impl_within )) :=
  fun_ok (c := Try.f36.body.getD .skip) (con_impl_MenuOk (impl_MenuOk_ impl_MenuNew impl_within )) (gOf [(31, con_impl_MenuNew impl_MenuNew), (81, con_impl_within impl_within)]) [] [⟨2, lp_impl_MenuOk_2, impl_MenuOk_L2 impl_MenuNew impl_within ⟩] rfl Try.func36 rfl rfl rfl (gOf_cons h31 (gOf_cons h81 (gOf_nil))) (by kernel_rfl) [2] 0 (by kernel_rfl) (by kernel_rfl)
    (fun x => .cons (⟨2, lp_impl_MenuOk_2, impl_MenuOk_L2 impl_MenuNew impl_within ⟩ : Lab (OKs [.v false [.bool]])) rfl rfl (by kernel_rfl) (by kernel_rfl) (.nil _))
theorem ok_impl_MenuOk : CtrOK Try.prog 36 (con_impl_MenuOk fun _ => g_impl_MenuOk) := (okp_impl_MenuOk _ _ ok_impl_MenuNew ok_impl_within).nice e_impl_MenuOk

theorem okp_impl_Press (impl_MenuNew : Nat → Unit → Option ((Int × Bool × Int × Int × ByteArray))) (impl_MenuOk : Nat → (Int × Bool × Int × Int × ByteArray) → Option (Bool)) (impl_Menu__enter : Nat → (Int × Bool × Int × Int × ByteArray) → Option ((Int × Bool × Int × Int × ByteArray) × (Int × Int × Int × Int) × Bool)) (impl_Menu__top : Nat → (Int × Bool × Int × Int × ByteArray) × Int → Option ((Int × Bool × Int × Int × ByteArray) × (Int × Int × Int × Int) × Bool)) (impl_within : Nat → Int × Int × Int → Option (Bool)) (h31 : CtrOK Try.prog 31 (con_impl_MenuNew impl_MenuNew)) (h36 : CtrOK Try.prog 36 (con_impl_MenuOk impl_MenuOk)) (h80 : CtrOK Try.prog 80 (con_impl_Menu__enter impl_Menu__enter)) (h79 : CtrOK Try.prog 79 (con_impl_Menu__top impl_Menu__top)) (h81 : CtrOK Try.prog 81 (con_impl_within impl_within)) : CtrOK Try.prog 26 (con_impl_Press (impl_Press_ impl_MenuNew impl_MenuOk impl_Menu__enter impl_Menu__top impl_within )) :=
  fun_ok0 (c := Try.f26.body.getD .skip) (con_impl_Press (impl_Press_ impl_MenuNew impl_MenuOk impl_Menu__enter impl_Menu__top impl_within )) (gOf [(31, con_impl_MenuNew impl_MenuNew), (36, con_impl_MenuOk impl_MenuOk), (80, con_impl_Menu__enter impl_Menu__enter), (79, con_impl_Menu__top impl_Menu__top), (81, con_impl_within impl_within)]) rfl Try.func26 rfl rfl rfl (gOf_cons h31 (gOf_cons h36 (gOf_cons h80 (gOf_cons h79 (gOf_cons h81 (gOf_nil)))))) (by kernel_rfl) (by kernel_rfl)
theorem ok_impl_Press : CtrOK Try.prog 26 (con_impl_Press fun _ => g_impl_Press) := (okp_impl_Press _ _ _ _ _ ok_impl_MenuNew ok_impl_MenuOk ok_impl_Menu__enter ok_impl_Menu__top ok_impl_within).nice e_impl_Press

def lp_spec_l17Number_3 : LP := ⟨[(0, false, [.str]), (3, false, [.int .i64]), (4, false, [.int .i64])], [], 0⟩
theorem okp_spec_l17Number : CtrOK Try.prog 78 (con_spec_l17Number (spec_l17Number_ )) :=
  fun_ok (c := Try.f78.body.getD .skip) (con_spec_l17Number (spec_l17Number_ )) (gOf []) [] [⟨3, lp_spec_l17Number_3, spec_l17Number_L3 ⟩] rfl Try.func78 rfl rfl rfl (gOf_nil) (by kernel_rfl) [3] 0 (by kernel_rfl) (by kernel_rfl)
    (fun x => .cons (⟨3, lp_spec_l17Number_3, spec_l17Number_L3 ⟩ : Lab (OKs [.v false [.int .i64]])) rfl rfl (by kernel_rfl) (by kernel_rfl) (.nil _))
theorem ok_spec_l17Number : CtrOK Try.prog 78 (con_spec_l17Number fun _ => g_spec_l17Number) := (okp_spec_l17Number  ).nice e_spec_l17Number

theorem okp_spec_l17Top : CtrOK Try.prog 77 (con_spec_l17Top (spec_l17Top_ )) :=
  fun_ok0 (c := Try.f77.body.getD .skip) (con_spec_l17Top (spec_l17Top_ )) (gOf []) rfl Try.func77 rfl rfl rfl (gOf_nil) (by kernel_rfl) (by kernel_rfl)
theorem ok_spec_l17Top : CtrOK Try.prog 77 (con_spec_l17Top fun _ => g_spec_l17Top) := (okp_spec_l17Top  ).nice e_spec_l17Top

def lp_spec_MenuOk_4 : LP := ⟨[(1, false, [.ptr 0 0]), (3, false, [.int .i64])], [.box [.int .i64, .bool, .int .i64, .int .i64, .str] 30], 0⟩
theorem okp_spec_MenuOk (spec_l01In : Nat → Int × Int × Int → Option (Bool)) (h88 : CtrOK Try.prog 88 (con_spec_l01In spec_l01In)) : CtrOK Try.prog 38 (con_spec_MenuOk (spec_MenuOk_ spec_l01In )) :=
  fun_ok (c := Try.f38.body.getD .skip) (con_spec_MenuOk (spec_MenuOk_ spec_l01In )) (gOf [(88, con_spec_l01In spec_l01In)]) [] [⟨4, lp_spec_MenuOk_4, spec_MenuOk_L4 spec_l01In ⟩] rfl Try.func38 rfl rfl rfl (gOf_cons h88 (gOf_nil)) (by kernel_rfl) [4] 0 (by kernel_rfl) (by kernel_rfl)
    (fun x => .cons (⟨4, lp_spec_MenuOk_4, spec_MenuOk_L4 spec_l01In ⟩ : Lab (OKs [.v false [.bool]])) rfl rfl (by kernel_rfl) (by kernel_rfl) (.nil _))
theorem ok_spec_MenuOk : CtrOK Try.prog 38 (con_spec_MenuOk fun _ => g_spec_MenuOk) := (okp_spec_MenuOk _ ok_spec_l01In).nice e_spec_MenuOk

theorem okp_spec_Press (spec_MenuNew : Nat → Unit → Option ((Int × Bool × Int × Int × ByteArray))) (spec_MenuOk : Nat → (Int × Bool × Int × Int × ByteArray) → Option (Bool)) (spec_OrderOk : Nat → (Int × Int × Int × Int) → Option (Bool)) (spec_l17Number : Nat → ByteArray → Option (Int)) (spec_l17Top : Nat → (Int × Bool × Int × Int × ByteArray) × Int → Option ((Int × Bool × Int × Int × ByteArray) × (Int × Int × Int × Int) × Bool)) (h33 : CtrOK Try.prog 33 (con_spec_MenuNew spec_MenuNew)) (h38 : CtrOK Try.prog 38 (con_spec_MenuOk spec_MenuOk)) (h58 : CtrOK Try.prog 58 (con_spec_OrderOk spec_OrderOk)) (h78 : CtrOK Try.prog 78 (con_spec_l17Number spec_l17Number)) (h77 : CtrOK Try.prog 77 (con_spec_l17Top spec_l17Top)) : CtrOK Try.prog 24 (con_spec_Press (spec_Press_ spec_MenuNew spec_MenuOk spec_OrderOk spec_l17Number spec_l17Top )) :=
  fun_ok0 (c := Try.f24.body.getD .skip) (con_spec_Press (spec_Press_ spec_MenuNew spec_MenuOk spec_OrderOk spec_l17Number spec_l17Top )) (gOf [(33, con_spec_MenuNew spec_MenuNew), (38, con_spec_MenuOk spec_MenuOk), (58, con_spec_OrderOk spec_OrderOk), (78, con_spec_l17Number spec_l17Number), (77, con_spec_l17Top spec_l17Top)]) rfl Try.func24 rfl rfl rfl (gOf_cons h33 (gOf_cons h38 (gOf_cons h58 (gOf_cons h78 (gOf_cons h77 (gOf_nil)))))) (by kernel_rfl) (by kernel_rfl)
theorem ok_spec_Press : CtrOK Try.prog 24 (con_spec_Press fun _ => g_spec_Press) := (okp_spec_Press _ _ _ _ _ ok_spec_MenuNew ok_spec_MenuOk ok_spec_OrderOk ok_spec_l17Number ok_spec_l17Top).nice e_spec_Press

def lp_impl_PressAll_3 : LP := ⟨[(1, false, [.str]), (2, false, [.ptr 0 0]), (4, false, [.ptr 1 0]), (6, false, [.sl 2]), (13, false, [.int .i64]), (14, false, [.int .i64])], [.box [.int .i64, .bool, .int .i64, .int .i64, .str] 30, .box [.int .i64, .bool, .int .i64, .int .i64, .str] 30, .row (.pair (.int .i64) (.pair (.int .i64) (.pair (.int .i64) (.int .i64)))) 39], 0⟩
theorem okp_impl_PressAll (impl_Press : Nat → (Int × Bool × Int × Int × ByteArray) × Int → Option ((Int × Bool × Int × Int × ByteArray) × (Int × Int × Int × Int) × Bool)) (h26 : CtrOK Try.prog 26 (con_impl_Press impl_Press)) : CtrOK Try.prog 30 (con_impl_PressAll (impl_PressAll_ impl_Press )) :=
  fun_ok (c := Try.f30.body.getD .skip) (con_impl_PressAll (impl_PressAll_ impl_Press )) (gOf [(26, con_impl_Press impl_Press)]) [] [⟨3, lp_impl_PressAll_3, impl_PressAll_L3 impl_Press ⟩] rfl Try.func30 rfl rfl rfl (gOf_cons h26 (gOf_nil)) (by kernel_rfl) [3] 0 (by kernel_rfl) (by kernel_rfl)
    (fun x => .cons (⟨3, lp_impl_PressAll_3, impl_PressAll_L3 impl_Press ⟩ : Lab (OKs [.v true [.int .i64, .bool, .int .i64, .int .i64, .str], .v false [.own (.pair (.int .i64) (.pair (.int .i64) (.pair (.int .i64) (.int .i64)))) 39]])) rfl rfl (by kernel_rfl) (by kernel_rfl) (.nil _))
theorem ok_impl_PressAll : CtrOK Try.prog 30 (con_impl_PressAll fun _ => g_impl_PressAll) := (okp_impl_PressAll _ ok_impl_Press).nice e_impl_PressAll

theorem okp_spec_l01Byte : CtrOK Try.prog 84 (con_spec_l01Byte (spec_l01Byte_ )) :=
  fun_ok0 (c := Try.f84.body.getD .skip) (con_spec_l01Byte (spec_l01Byte_ )) (gOf []) rfl Try.func84 rfl rfl rfl (gOf_nil) (by kernel_rfl) (by kernel_rfl)
theorem ok_spec_l01Byte : CtrOK Try.prog 84 (con_spec_l01Byte fun _ => g_spec_l01Byte) := (okp_spec_l01Byte  ).nice e_spec_l01Byte

theorem okp_spec_l01Below (spec_l01Byte : Nat → (List Int × Int × Int) → Option (Int × (Unit × Int × Int))) (h84 : CtrOK Try.prog 84 (con_spec_l01Byte spec_l01Byte)) : CtrOK Try.prog 85 (con_spec_l01Below (spec_l01Below_ spec_l01Byte )) :=
  fun_ok0 (c := Try.f85.body.getD .skip) (con_spec_l01Below (spec_l01Below_ spec_l01Byte )) (gOf [(84, con_spec_l01Byte spec_l01Byte)]) rfl Try.func85 rfl rfl rfl (gOf_cons h84 (gOf_nil)) (by kernel_rfl) (by kernel_rfl)
theorem ok_spec_l01Below : CtrOK Try.prog 85 (con_spec_l01Below fun _ => g_spec_l01Below) := (okp_spec_l01Below _ ok_spec_l01Byte).nice e_spec_l01Below

def lp_spec_l01New_3 : LP := ⟨[(0, false, [.sl 0]), (3, false, [.int .i64]), (4, false, [.int .i64])], [.ro (.int .u8) 0], 1⟩
theorem okp_spec_l01New : CtrOK Try.prog 83 (con_spec_l01New (spec_l01New_ )) :=
  fun_ok (c := Try.f83.body.getD .skip) (con_spec_l01New (spec_l01New_ )) (gOf []) [] [⟨3, lp_spec_l01New_3, spec_l01New_L3 ⟩] rfl Try.func83 rfl rfl rfl (gOf_nil) (by kernel_rfl) [3] 1 (by kernel_rfl) (by kernel_rfl)
    (fun x => .cons (⟨3, lp_spec_l01New_3, spec_l01New_L3 ⟩ : Lab (OKs [.box [.al 0 0, .int .i64, .int .i64] 155])) rfl rfl (by kernel_rfl) (by kernel_rfl) (.nil _))
theorem ok_spec_l01New : CtrOK Try.prog 83 (con_spec_l01New fun _ => g_spec_l01New) := (okp_spec_l01New  ).nice e_spec_l01New

def lp_spec_DrawPlaces_5 : LP := ⟨[(3, false, [.ptr 1 0]), (4, false, [.sl 2]), (5, false, [.int .i64])], [.ro (.int .u8) 0, .box [.sl 0, .int .i64, .int .i64] 155, .row (.int .i64) 3], 1⟩
theorem okp_spec_DrawPlaces (spec_l01Below : Nat → (List Int × Int × Int) × Int → Option (Int × (Unit × Int × Int))) (spec_l01Byte : Nat → (List Int × Int × Int) → Option (Int × (Unit × Int × Int))) (spec_l01New : Nat → List Int → Option ((Unit × Int × Int))) (h85 : CtrOK Try.prog 85 (con_spec_l01Below spec_l01Below)) (h84 : CtrOK Try.prog 84 (con_spec_l01Byte spec_l01Byte)) (h83 : CtrOK Try.prog 83 (con_spec_l01New spec_l01New)) : CtrOK Try.prog 34 (con_spec_DrawPlaces (spec_DrawPlaces_ spec_l01Below spec_l01Byte spec_l01New )) :=
  fun_ok (c := Try.f34.body.getD .skip) (con_spec_DrawPlaces (spec_DrawPlaces_ spec_l01Below spec_l01Byte spec_l01New )) (gOf [(85, con_spec_l01Below spec_l01Below), (84, con_spec_l01Byte spec_l01Byte), (83, con_spec_l01New spec_l01New)]) [] [⟨5, lp_spec_DrawPlaces_5, spec_DrawPlaces_L5 spec_l01Below spec_l01Byte spec_l01New ⟩] rfl Try.func34 rfl rfl rfl (gOf_cons h85 (gOf_cons h84 (gOf_cons h83 (gOf_nil)))) (by kernel_rfl) [5] 1 (by kernel_rfl) (by kernel_rfl)
    (fun x => .cons (⟨5, lp_spec_DrawPlaces_5, spec_DrawPlaces_L5 spec_l01Below spec_l01Byte spec_l01New ⟩ : Lab (OKs [.v false [.own (.int .i64) 3]])) rfl rfl (by kernel_rfl) (by kernel_rfl) (.nil _))
theorem ok_spec_DrawPlaces : CtrOK Try.prog 34 (con_spec_DrawPlaces fun _ => g_spec_DrawPlaces) := (okp_spec_DrawPlaces _ _ _ ok_spec_l01Below ok_spec_l01Byte ok_spec_l01New).nice e_spec_DrawPlaces

def lp_spec_PressAll_3 : LP := ⟨[(1, false, [.str]), (2, false, [.ptr 0 0]), (4, false, [.ptr 1 0]), (6, false, [.sl 2]), (7, false, [.int .i64])], [.box [.int .i64, .bool, .int .i64, .int .i64, .str] 30, .box [.int .i64, .bool, .int .i64, .int .i64, .str] 30, .row (.pair (.int .i64) (.pair (.int .i64) (.pair (.int .i64) (.int .i64)))) 39], 0⟩
theorem okp_spec_PressAll (spec_Press : Nat → (Int × Bool × Int × Int × ByteArray) × Int → Option ((Int × Bool × Int × Int × ByteArray) × (Int × Int × Int × Int) × Bool)) (h24 : CtrOK Try.prog 24 (con_spec_Press spec_Press)) : CtrOK Try.prog 32 (con_spec_PressAll (spec_PressAll_ spec_Press )) :=
  fun_ok (c := Try.f32.body.getD .skip) (con_spec_PressAll (spec_PressAll_ spec_Press )) (gOf [(24, con_spec_Press spec_Press)]) [] [⟨3, lp_spec_PressAll_3, spec_PressAll_L3 spec_Press ⟩] rfl Try.func32 rfl rfl rfl (gOf_cons h24 (gOf_nil)) (by kernel_rfl) [3] 0 (by kernel_rfl) (by kernel_rfl)
    (fun x => .cons (⟨3, lp_spec_PressAll_3, spec_PressAll_L3 spec_Press ⟩ : Lab (OKs [.v true [.int .i64, .bool, .int .i64, .int .i64, .str], .v false [.own (.pair (.int .i64) (.pair (.int .i64) (.pair (.int .i64) (.int .i64)))) 39]])) rfl rfl (by kernel_rfl) (by kernel_rfl) (.nil _))
theorem ok_spec_PressAll : CtrOK Try.prog 32 (con_spec_PressAll fun _ => g_spec_PressAll) := (okp_spec_PressAll _ ok_spec_Press).nice e_spec_PressAll

theorem okp_spec_l01Pick (spec_l01Below : Nat → (List Int × Int × Int) × Int → Option (Int × (Unit × Int × Int))) (h85 : CtrOK Try.prog 85 (con_spec_l01Below spec_l01Below)) : CtrOK Try.prog 129 (con_spec_l01Pick (spec_l01Pick_ spec_l01Below )) :=
  fun_ok0 (c := Try.f129.body.getD .skip) (con_spec_l01Pick (spec_l01Pick_ spec_l01Below )) (gOf [(85, con_spec_l01Below spec_l01Below)]) rfl Try.func129 rfl rfl rfl (gOf_cons h85 (gOf_nil)) (by kernel_rfl) (by kernel_rfl)
theorem ok_spec_l01Pick : CtrOK Try.prog 129 (con_spec_l01Pick fun _ => g_spec_l01Pick) := (okp_spec_l01Pick _ ok_spec_l01Below).nice e_spec_l01Pick

def lp_spec_l17Keys_3 : LP := ⟨[(0, false, [.ptr 0 0]), (3, false, [.str]), (4, false, [.int .i64])], [.box [.sl 1, .int .i64, .int .i64] 155, .ro (.int .u8) 0], 2⟩
theorem okp_spec_l17Keys (spec_l01Below : Nat → (List Int × Int × Int) × Int → Option (Int × (Unit × Int × Int))) (spec_l01Pick : Nat → (List Int × Int × Int) × List ByteArray → Option (ByteArray × (Unit × Int × Int))) (h85 : CtrOK Try.prog 85 (con_spec_l01Below spec_l01Below)) (h129 : CtrOK Try.prog 129 (con_spec_l01Pick spec_l01Pick)) : CtrOK Try.prog 82 (con_spec_l17Keys (spec_l17Keys_ spec_l01Below spec_l01Pick )) :=
  fun_ok (c := Try.f82.body.getD .skip) (con_spec_l17Keys (spec_l17Keys_ spec_l01Below spec_l01Pick )) (gOf [(85, con_spec_l01Below spec_l01Below), (129, con_spec_l01Pick spec_l01Pick)]) [] [⟨3, lp_spec_l17Keys_3, spec_l17Keys_L3 spec_l01Below spec_l01Pick ⟩] rfl Try.func82 rfl rfl rfl (gOf_cons h85 (gOf_cons h129 (gOf_nil))) (by kernel_rfl) [3] 2 (by kernel_rfl) (by kernel_rfl)
    (fun x => .cons (⟨3, lp_spec_l17Keys_3, spec_l17Keys_L3 spec_l01Below spec_l01Pick ⟩ : Lab (OKs [.v false [.str], .box [.keep, .int .i64, .int .i64] 155])) rfl rfl (by kernel_rfl) (by kernel_rfl) (.nil _))
theorem ok_spec_l17Keys : CtrOK Try.prog 82 (con_spec_l17Keys fun _ => g_spec_l17Keys) := (okp_spec_l17Keys _ _ ok_spec_l01Below ok_spec_l01Pick).nice e_spec_l17Keys

theorem okp_spec_DrawKeys (spec_l01New : Nat → List Int → Option ((Unit × Int × Int))) (spec_l17Keys : Nat → (List Int × Int × Int) → Option (ByteArray × (Unit × Int × Int))) (h83 : CtrOK Try.prog 83 (con_spec_l01New spec_l01New)) (h82 : CtrOK Try.prog 82 (con_spec_l17Keys spec_l17Keys)) : CtrOK Try.prog 29 (con_spec_DrawKeys (spec_DrawKeys_ spec_l01New spec_l17Keys )) :=
  fun_ok0 (c := Try.f29.body.getD .skip) (con_spec_DrawKeys (spec_DrawKeys_ spec_l01New spec_l17Keys )) (gOf [(83, con_spec_l01New spec_l01New), (82, con_spec_l17Keys spec_l17Keys)]) rfl Try.func29 rfl rfl rfl (gOf_cons h83 (gOf_cons h82 (gOf_nil))) (by kernel_rfl) (by kernel_rfl)
theorem ok_spec_DrawKeys : CtrOK Try.prog 29 (con_spec_DrawKeys fun _ => g_spec_DrawKeys) := (okp_spec_DrawKeys _ _ ok_spec_l01New ok_spec_l17Keys).nice e_spec_DrawKeys

theorem okp_laws_big : CtrOK Try.prog 28 (con_laws_big (laws_big_ )) :=
  fun_ok0 (c := Try.f28.body.getD .skip) (con_laws_big (laws_big_ )) (gOf []) rfl Try.func28 rfl rfl rfl (gOf_nil) (by kernel_rfl) (by kernel_rfl)
theorem ok_laws_big : CtrOK Try.prog 28 (con_laws_big fun _ => g_laws_big) := (okp_laws_big  ).nice e_laws_big

def lp_laws_FnMenus_12 : LP := ⟨[(4, false, [.ptr 1 0]), (5, false, [.sl 2]), (7, false, [.sl 3]), (9, false, [.ptr 4 0]), (13, false, [.int .i64])], [.dead, .box [.int .i64, .bool, .int .i64, .int .i64, .str] 30, .row (.pair (.int .i64) (.pair (.int .i64) (.pair (.int .i64) (.int .i64)))) 39, .row (.pair (.int .i64) (.pair (.int .i64) (.pair (.int .i64) (.int .i64)))) 39, .box [.int .i64, .bool, .int .i64, .int .i64, .str] 30], 1⟩
theorem okp_laws_FnMenus (impl_MenuNew : Nat → Unit → Option ((Int × Bool × Int × Int × ByteArray))) (impl_MenuOk : Nat → (Int × Bool × Int × Int × ByteArray) → Option (Bool)) (impl_OrderOk : Nat → (Int × Int × Int × Int) → Option (Bool)) (impl_PressAll : Nat → (Int × Bool × Int × Int × ByteArray) × ByteArray → Option ((Int × Bool × Int × Int × ByteArray) × ((List (Int × (Int × (Int × Int))))))) (laws_big : Nat → List Int → Option (Bool)) (spec_DrawKeys : Nat → List Int → Option (ByteArray)) (spec_DrawPlaces : Nat → List Int → Option (List Int)) (spec_MenuNew : Nat → Unit → Option ((Int × Bool × Int × Int × ByteArray))) (spec_PressAll : Nat → (Int × Bool × Int × Int × ByteArray) × ByteArray → Option ((Int × Bool × Int × Int × ByteArray) × ((List (Int × (Int × (Int × Int))))))) (h31 : CtrOK Try.prog 31 (con_impl_MenuNew impl_MenuNew)) (h36 : CtrOK Try.prog 36 (con_impl_MenuOk impl_MenuOk)) (h35 : CtrOK Try.prog 35 (con_impl_OrderOk impl_OrderOk)) (h30 : CtrOK Try.prog 30 (con_impl_PressAll impl_PressAll)) (h28 : CtrOK Try.prog 28 (con_laws_big laws_big)) (h29 : CtrOK Try.prog 29 (con_spec_DrawKeys spec_DrawKeys)) (h34 : CtrOK Try.prog 34 (con_spec_DrawPlaces spec_DrawPlaces)) (h33 : CtrOK Try.prog 33 (con_spec_MenuNew spec_MenuNew)) (h32 : CtrOK Try.prog 32 (con_spec_PressAll spec_PressAll)) : CtrOK Try.prog 6 (con_laws_FnMenus (laws_FnMenus_ impl_MenuNew impl_MenuOk impl_OrderOk impl_PressAll laws_big spec_DrawKeys spec_DrawPlaces spec_MenuNew spec_PressAll )) :=
  fun_ok (c := Try.f6.body.getD .skip) (con_laws_FnMenus (laws_FnMenus_ impl_MenuNew impl_MenuOk impl_OrderOk impl_PressAll laws_big spec_DrawKeys spec_DrawPlaces spec_MenuNew spec_PressAll )) (gOf [(31, con_impl_MenuNew impl_MenuNew), (36, con_impl_MenuOk impl_MenuOk), (35, con_impl_OrderOk impl_OrderOk), (30, con_impl_PressAll impl_PressAll), (28, con_laws_big laws_big), (29, con_spec_DrawKeys spec_DrawKeys), (34, con_spec_DrawPlaces spec_DrawPlaces), (33, con_spec_MenuNew spec_MenuNew), (32, con_spec_PressAll spec_PressAll)]) [] [⟨12, lp_laws_FnMenus_12, laws_FnMenus_L12 impl_MenuNew impl_MenuOk impl_OrderOk impl_PressAll laws_big spec_DrawKeys spec_DrawPlaces spec_MenuNew spec_PressAll ⟩] rfl Try.func6 rfl rfl rfl (gOf_cons h31 (gOf_cons h36 (gOf_cons h35 (gOf_cons h30 (gOf_cons h28 (gOf_cons h29 (gOf_cons h34 (gOf_cons h33 (gOf_cons h32 (gOf_nil)))))))))) (by kernel_rfl) [12] 1 (by kernel_rfl) (by kernel_rfl)
    (fun x => .cons (⟨12, lp_laws_FnMenus_12, laws_FnMenus_L12 impl_MenuNew impl_MenuOk impl_OrderOk impl_PressAll laws_big spec_DrawKeys spec_DrawPlaces spec_MenuNew spec_PressAll ⟩ : Lab (OKs [.v false [.bool]])) rfl rfl (by kernel_rfl) (by kernel_rfl) (.nil _))
theorem ok_laws_FnMenus : CtrOK Try.prog 6 (con_laws_FnMenus fun _ => g_laws_FnMenus) := (okp_laws_FnMenus _ _ _ _ _ _ _ _ _ ok_impl_MenuNew ok_impl_MenuOk ok_impl_OrderOk ok_impl_PressAll ok_laws_big ok_spec_DrawKeys ok_spec_DrawPlaces ok_spec_MenuNew ok_spec_PressAll).nice e_laws_FnMenus

end Go.Sx.T
