/- Functions of the program as functions of Lean, and that the program keeps to them. -/
import Derived.Test.YthimkepabblloaaFnExactPressAllA0
import Derived.Test.YthimkepabblloaaProg
set_option maxRecDepth 100000
set_option linter.unusedVariables false
set_option linter.unusedSimpArgs false
namespace Go.Proofs
end Go.Proofs
namespace Go.Sx.T
open Go Go.Sx Go.Proofs Go.RowKit
theorem okp_laws_eqMenu : CtrOK Try.prog 27 (con_laws_eqMenu (laws_eqMenu_ )) :=
  fun_ok0 (c := Try.f27.body.getD .skip) (con_laws_eqMenu (laws_eqMenu_ )) (gOf []) rfl Try.func27 rfl rfl rfl (gOf_nil) (by kernel_rfl) (by kernel_rfl)
theorem ok_laws_eqMenu : CtrOK Try.prog 27 (con_laws_eqMenu fun _ => g_laws_eqMenu) := (okp_laws_eqMenu  ).nice e_laws_eqMenu

theorem okp_impl_MenuNew : CtrOK Try.prog 31 (con_impl_MenuNew (impl_MenuNew_ )) :=
  fun_ok0 (c := Try.f31.body.getD .skip) (con_impl_MenuNew (impl_MenuNew_ )) (gOf []) rfl Try.func31 rfl rfl rfl (gOf_nil) (by kernel_rfl) (by kernel_rfl)
theorem ok_impl_MenuNew : CtrOK Try.prog 31 (con_impl_MenuNew fun _ => g_impl_MenuNew) := (okp_impl_MenuNew  ).nice e_impl_MenuNew

theorem okp_spec_MenuNew : CtrOK Try.prog 33 (con_spec_MenuNew (spec_MenuNew_ )) :=
  fun_ok0 (c := Try.f33.body.getD .skip) (con_spec_MenuNew (spec_MenuNew_ )) (gOf []) rfl Try.func33 rfl rfl rfl (gOf_nil) (by kernel_rfl) (by kernel_rfl)
theorem ok_spec_MenuNew : CtrOK Try.prog 33 (con_spec_MenuNew fun _ => g_spec_MenuNew) := (okp_spec_MenuNew  ).nice e_spec_MenuNew

theorem okp_laws_eqOrder : CtrOK Try.prog 22 (con_laws_eqOrder (laws_eqOrder_ )) :=
  fun_ok0 (c := Try.f22.body.getD .skip) (con_laws_eqOrder (laws_eqOrder_ )) (gOf []) rfl Try.func22 rfl rfl rfl (gOf_nil) (by kernel_rfl) (by kernel_rfl)
theorem ok_laws_eqOrder : CtrOK Try.prog 22 (con_laws_eqOrder fun _ => g_laws_eqOrder) := (okp_laws_eqOrder  ).nice e_laws_eqOrder

theorem okp_impl_within : CtrOK Try.prog 81 (con_impl_within (impl_within_ )) :=
  fun_ok0 (c := Try.f81.body.getD .skip) (con_impl_within (impl_within_ )) (gOf []) rfl Try.func81 rfl rfl rfl (gOf_nil) (by kernel_rfl) (by kernel_rfl)
theorem ok_impl_within : CtrOK Try.prog 81 (con_impl_within fun _ => g_impl_within) := (okp_impl_within  ).nice e_impl_within

theorem okp_impl_OrderOk (impl_within : Nat → Int × Int × Int → Option (Bool)) (h81 : CtrOK Try.prog 81 (con_impl_within impl_within)) : CtrOK Try.prog 35 (con_impl_OrderOk (impl_OrderOk_ impl_within )) :=
  fun_ok0 (c := Try.f35.body.getD .skip) (con_impl_OrderOk (impl_OrderOk_ impl_within )) (gOf [(81, con_impl_within impl_within)]) rfl Try.func35 rfl rfl rfl (gOf_cons h81 (gOf_nil)) (by kernel_rfl) (by kernel_rfl)
theorem ok_impl_OrderOk : CtrOK Try.prog 35 (con_impl_OrderOk fun _ => g_impl_OrderOk) := (okp_impl_OrderOk _ ok_impl_within).nice e_impl_OrderOk

theorem okp_spec_l01In : CtrOK Try.prog 88 (con_spec_l01In (spec_l01In_ )) :=
  fun_ok0 (c := Try.f88.body.getD .skip) (con_spec_l01In (spec_l01In_ )) (gOf []) rfl Try.func88 rfl rfl rfl (gOf_nil) (by kernel_rfl) (by kernel_rfl)
theorem ok_spec_l01In : CtrOK Try.prog 88 (con_spec_l01In fun _ => g_spec_l01In) := (okp_spec_l01In  ).nice e_spec_l01In

theorem okp_spec_OrderOk (spec_l01In : Nat → Int × Int × Int → Option (Bool)) (h88 : CtrOK Try.prog 88 (con_spec_l01In spec_l01In)) : CtrOK Try.prog 58 (con_spec_OrderOk (spec_OrderOk_ spec_l01In )) :=
  fun_ok0 (c := Try.f58.body.getD .skip) (con_spec_OrderOk (spec_OrderOk_ spec_l01In )) (gOf [(88, con_spec_l01In spec_l01In)]) rfl Try.func58 rfl rfl rfl (gOf_cons h88 (gOf_nil)) (by kernel_rfl) (by kernel_rfl)
theorem ok_spec_OrderOk : CtrOK Try.prog 58 (con_spec_OrderOk fun _ => g_spec_OrderOk) := (okp_spec_OrderOk _ ok_spec_l01In).nice e_spec_OrderOk

def lp_impl_typed_3 : LP := ⟨[(0, false, [.str]), (3, false, [.int .i64]), (6, false, [.int .i64]), (7, false, [.int .i64])], [], 0⟩
theorem okp_impl_typed : CtrOK Try.prog 128 (con_impl_typed (impl_typed_ )) :=
  fun_ok (c := Try.f128.body.getD .skip) (con_impl_typed (impl_typed_ )) (gOf []) [] [⟨3, lp_impl_typed_3, impl_typed_L3 ⟩] rfl Try.func128 rfl rfl rfl (gOf_nil) (by kernel_rfl) [3] 0 (by kernel_rfl) (by kernel_rfl)
    (fun x => .cons (⟨3, lp_impl_typed_3, impl_typed_L3 ⟩ : Lab (OKs [.v false [.int .i64]])) rfl rfl (by kernel_rfl) (by kernel_rfl) (.nil _))
theorem ok_impl_typed : CtrOK Try.prog 128 (con_impl_typed fun _ => g_impl_typed) := (okp_impl_typed  ).nice e_impl_typed

theorem okp_impl_Menu__enter (impl_MenuNew : Nat → Unit → Option ((Int × Bool × Int × Int × ByteArray))) (impl_OrderOk : Nat → (Int × Int × Int × Int) → Option (Bool)) (impl_typed : Nat → ByteArray → Option (Int)) (h31 : CtrOK Try.prog 31 (con_impl_MenuNew impl_MenuNew)) (h35 : CtrOK Try.prog 35 (con_impl_OrderOk impl_OrderOk)) (h128 : CtrOK Try.prog 128 (con_impl_typed impl_typed)) : CtrOK Try.prog 80 (con_impl_Menu__enter (impl_Menu__enter_ impl_MenuNew impl_OrderOk impl_typed )) :=
  fun_ok0 (c := Try.f80.body.getD .skip) (con_impl_Menu__enter (impl_Menu__enter_ impl_MenuNew impl_OrderOk impl_typed )) (gOf [(31, con_impl_MenuNew impl_MenuNew), (35, con_impl_OrderOk impl_OrderOk), (128, con_impl_typed impl_typed)]) rfl Try.func80 rfl rfl rfl (gOf_cons h31 (gOf_cons h35 (gOf_cons h128 (gOf_nil)))) (by kernel_rfl) (by kernel_rfl)
theorem ok_impl_Menu__enter : CtrOK Try.prog 80 (con_impl_Menu__enter fun _ => g_impl_Menu__enter) := (okp_impl_Menu__enter _ _ _ ok_impl_MenuNew ok_impl_OrderOk ok_impl_typed).nice e_impl_Menu__enter

theorem okp_impl_Menu__top : CtrOK Try.prog 79 (con_impl_Menu__top (impl_Menu__top_ )) :=
  fun_ok0 (c := Try.f79.body.getD .skip) (con_impl_Menu__top (impl_Menu__top_ )) (gOf []) rfl Try.func79 rfl rfl rfl (gOf_nil) (by kernel_rfl) (by kernel_rfl)
theorem ok_impl_Menu__top : CtrOK Try.prog 79 (con_impl_Menu__top fun _ => g_impl_Menu__top) := (okp_impl_Menu__top  ).nice e_impl_Menu__top

def lp_impl_MenuOk_2 : LP := ⟨[(1, false, [.ptr 0 0]), (6, false, [.int .i64]), (7, false, [.int .i64])], [.box [.int .i64, .bool, .int .i64, .int .i64, .str] 30], 0⟩
theorem okp_impl_MenuOk (impl_MenuNew : Nat → Unit → Option ((Int × Bool × Int × Int × ByteArray))) (impl_within : Nat → Int × Int × Int → Option (Bool)) (h31 : CtrOK Try.prog 31 (con_impl_MenuNew impl_MenuNew)) (h81 : CtrOK Try.prog 81 (con_impl_within impl_within)) : CtrOK Try.prog 36 (con_impl_MenuOk (impl_MenuOk_ impl_MenuNew impl_within )) :=
  fun_ok (c := Try.f36.body.getD .skip) (con_impl_MenuOk (impl_MenuOk_ impl_MenuNew impl_within )) (gOf [(31, con_impl_MenuNew impl_MenuNew), (81, con_impl_within impl_within)]) [] [⟨2, lp_impl_MenuOk_2, impl_MenuOk_L2 impl_MenuNew impl_within ⟩] rfl Try.func36 rfl rfl rfl (gOf_cons h31 (gOf_cons h81 (gOf_nil))) (by kernel_rfl) [2] 0 (by kernel_rfl) (by kernel_rfl)
    (fun x => .cons (⟨2, lp_impl_MenuOk_2, impl_MenuOk_L2 impl_MenuNew impl_within ⟩ : Lab (OKs [.v false [.bool]])) rfl rfl (by kernel_rfl) (by kernel_rfl) (.nil _))
theorem ok_impl_MenuOk : CtrOK Try.prog 36 (con_impl_MenuOk fun _ => g_impl_MenuOk) := (okp_impl_MenuOk _ _ ok_impl_MenuNew ok_impl_within).nice e_impl_MenuOk

theorem okp_impl_Press (impl_MenuNew : Nat → Unit → Option ((Int × Bool × Int × Int × ByteArray))) (impl_MenuOk : Nat → (Int × Bool × Int × Int × ByteArray) → Option (Bool)) (impl_Menu__enter : Nat → (Int × Bool × Int × Int × ByteArray) → Option ((Int × Bool × Int × Int × ByteArray) × (Int × Int × Int × Int) × Bool)) (impl_Menu__top : Nat → (Int × Bool × Int × Int × ByteArray) × Int → Option ((Int × Bool × Int × Int × ByteArray) × (Int × Int × Int × Int) × Bool)) (impl_within : Nat → Int × Int × Int → Option (Bool)) (h31 : CtrOK Try.prog 31 (con_impl_MenuNew impl_MenuNew)) (h36 : CtrOK Try.prog 36 (con_impl_MenuOk impl_MenuOk)) (h80 : CtrOK Try.prog 80 (con_impl_Menu__enter impl_Menu__enter)) (h79 : CtrOK Try.prog 79 (con_impl_Menu__top impl_Menu__top)) (h81 : CtrOK Try.prog 81 (con_impl_within impl_within)) : CtrOK Try.prog 26 (con_impl_Press (impl_Press_ impl_MenuNew impl_MenuOk impl_Menu__enter impl_Menu__top impl_within )) :=
  fun_ok0 (c := Try.f26.body.getD .skip) (con_impl_Press (impl_Press_ impl_MenuNew impl_MenuOk impl_Menu__enter impl_Menu__top impl_within )) (gOf [(31, con_impl_MenuNew impl_MenuNew), (36, con_impl_MenuOk impl_MenuOk), (80, con_impl_Menu__enter impl_Menu__enter), (79, con_impl_Menu__top impl_Menu__top), (81, con_impl_within impl_within)]) rfl Try.func26 rfl rfl rfl (gOf_cons h31 (gOf_cons h36 (gOf_cons h80 (gOf_cons h79 (gOf_cons h81 (gOf_nil)))))) (by kernel_rfl) (by kernel_rfl)
theorem ok_impl_Press : CtrOK Try.prog 26 (con_impl_Press fun _ => g_impl_Press) := (okp_impl_Press _ _ _ _ _ ok_impl_MenuNew ok_impl_MenuOk ok_impl_Menu__enter ok_impl_Menu__top ok_impl_within).nice e_impl_Press

theorem okp_laws_toMenu : CtrOK Try.prog 25 (con_laws_toMenu (laws_toMenu_ )) :=
  fun_ok0 (c := Try.f25.body.getD .skip) (con_laws_toMenu (laws_toMenu_ )) (gOf []) rfl Try.func25 rfl rfl rfl (gOf_nil) (by kernel_rfl) (by kernel_rfl)
theorem ok_laws_toMenu : CtrOK Try.prog 25 (con_laws_toMenu fun _ => g_laws_toMenu) := (okp_laws_toMenu  ).nice e_laws_toMenu

def lp_spec_l17Number_3 : LP := ⟨[(0, false, [.str]), (3, false, [.int .i64]), (4, false, [.int .i64])], [], 0⟩
theorem okp_spec_l17Number : CtrOK Try.prog 78 (con_spec_l17Number (spec_l17Number_ )) :=
  fun_ok (c := Try.f78.body.getD .skip) (con_spec_l17Number (spec_l17Number_ )) (gOf []) [] [⟨3, lp_spec_l17Number_3, spec_l17Number_L3 ⟩] rfl Try.func78 rfl rfl rfl (gOf_nil) (by kernel_rfl) [3] 0 (by kernel_rfl) (by kernel_rfl)
    (fun x => .cons (⟨3, lp_spec_l17Number_3, spec_l17Number_L3 ⟩ : Lab (OKs [.v false [.int .i64]])) rfl rfl (by kernel_rfl) (by kernel_rfl) (.nil _))
theorem ok_spec_l17Number : CtrOK Try.prog 78 (con_spec_l17Number fun _ => g_spec_l17Number) := (okp_spec_l17Number  ).nice e_spec_l17Number

theorem okp_spec_l17Top : CtrOK Try.prog 77 (con_spec_l17Top (spec_l17Top_ )) :=
  fun_ok0 (c := Try.f77.body.getD .skip) (con_spec_l17Top (spec_l17Top_ )) (gOf []) rfl Try.func77 rfl rfl rfl (gOf_nil) (by kernel_rfl) (by kernel_rfl)
theorem ok_spec_l17Top : CtrOK Try.prog 77 (con_spec_l17Top fun _ => g_spec_l17Top) := (okp_spec_l17Top  ).nice e_spec_l17Top

def lp_spec_MenuOk_4 : LP := ⟨[(1, false, [.ptr 0 0]), (3, false, [.int .i64])], [.box [.int .i64, .bool, .int .i64, .int .i64, .str] 30], 0⟩
theorem okp_spec_MenuOk (spec_l01In : Nat → Int × Int × Int → Option (Bool)) (h88 : CtrOK Try.prog 88 (con_spec_l01In spec_l01In)) : CtrOK Try.prog 38 (con_spec_MenuOk (spec_MenuOk_ spec_l01In )) :=
  fun_ok (c := Try.f38.body.getD .skip) (con_spec_MenuOk (spec_MenuOk_ spec_l01In )) (gOf [(88, con_spec_l01In spec_l01In)]) [] [⟨4, lp_spec_MenuOk_4, spec_MenuOk_L4 spec_l01In ⟩] rfl Try.func38 rfl rfl rfl (gOf_cons h88 (gOf_nil)) (by kernel_rfl) [4] 0 (by kernel_rfl) (by kernel_rfl)
    (fun x => .cons (⟨4, lp_spec_MenuOk_4, spec_MenuOk_L4 spec_l01In ⟩ : Lab (OKs [.v false [.bool]])) rfl rfl (by kernel_rfl) (by kernel_rfl) (.nil _))
theorem ok_spec_MenuOk : CtrOK Try.prog 38 (con_spec_MenuOk fun _ => g_spec_MenuOk) := (okp_spec_MenuOk _ ok_spec_l01In).nice e_spec_MenuOk

theorem okp_spec_Press (spec_MenuNew : Nat → Unit → Option ((Int × Bool × Int × Int × ByteArray))) (spec_MenuOk : Nat → (Int × Bool × Int × Int × ByteArray) → Option (Bool)) (spec_OrderOk : Nat → (Int × Int × Int × Int) → Option (Bool)) (spec_l17Number : Nat → ByteArray → Option (Int)) (spec_l17Top : Nat → (Int × Bool × Int × Int × ByteArray) × Int → Option ((Int × Bool × Int × Int × ByteArray) × (Int × Int × Int × Int) × Bool)) (h33 : CtrOK Try.prog 33 (con_spec_MenuNew spec_MenuNew)) (h38 : CtrOK Try.prog 38 (con_spec_MenuOk spec_MenuOk)) (h58 : CtrOK Try.prog 58 (con_spec_OrderOk spec_OrderOk)) (h78 : CtrOK Try.prog 78 (con_spec_l17Number spec_l17Number)) (h77 : CtrOK Try.prog 77 (con_spec_l17Top spec_l17Top)) : CtrOK Try.prog 24 (con_spec_Press (spec_Press_ spec_MenuNew spec_MenuOk spec_OrderOk spec_l17Number spec_l17Top )) :=
  fun_ok0 (c := Try.f24.body.getD .skip) (con_spec_Press (spec_Press_ spec_MenuNew spec_MenuOk spec_OrderOk spec_l17Number spec_l17Top )) (gOf [(33, con_spec_MenuNew spec_MenuNew), (38, con_spec_MenuOk spec_MenuOk), (58, con_spec_OrderOk spec_OrderOk), (78, con_spec_l17Number spec_l17Number), (77, con_spec_l17Top spec_l17Top)]) rfl Try.func24 rfl rfl rfl (gOf_cons h33 (gOf_cons h38 (gOf_cons h58 (gOf_cons h78 (gOf_cons h77 (gOf_nil)))))) (by kernel_rfl) (by kernel_rfl)
theorem ok_spec_Press : CtrOK Try.prog 24 (con_spec_Press fun _ => g_spec_Press) := (okp_spec_Press _ _ _ _ _ ok_spec_MenuNew ok_spec_MenuOk ok_spec_OrderOk ok_spec_l17Number ok_spec_l17Top).nice e_spec_Press

theorem okp_laws_szMenu : CtrOK Try.prog 23 (con_laws_szMenu (laws_szMenu_ )) :=
  fun_ok0 (c := Try.f23.body.getD .skip) (con_laws_szMenu (laws_szMenu_ )) (gOf []) rfl Try.func23 rfl rfl rfl (gOf_nil) (by kernel_rfl) (by kernel_rfl)
theorem ok_laws_szMenu : CtrOK Try.prog 23 (con_laws_szMenu fun _ => g_laws_szMenu) := (okp_laws_szMenu  ).nice e_laws_szMenu

def lp_impl_PressAll_3 : LP := ⟨[(1, false, [.str]), (2, false, [.ptr 0 0]), (4, false, [.ptr 1 0]), (6, false, [.sl 2]), (13, false, [.int .i64]), (14, false, [.int .i64])], [.box [.int .i64, .bool, .int .i64, .int .i64, .str] 30, .box [.int .i64, .bool, .int .i64, .int .i64, .str] 30, .row (.pair (.int .i64) (.pair (.int .i64) (.pair (.int .i64) (.int .i64)))) 39], 0⟩
theorem okp_impl_PressAll (impl_Press : Nat → (Int × Bool × Int × Int × ByteArray) × Int → Option ((Int × Bool × Int × Int × ByteArray) × (Int × Int × Int × Int) × Bool)) (h26 : CtrOK Try.prog 26 (con_impl_Press impl_Press)) : CtrOK Try.prog 30 (con_impl_PressAll (impl_PressAll_ impl_Press )) :=
  fun_ok (c := Try.f30.body.getD .skip) (con_impl_PressAll (impl_PressAll_ impl_Press )) (gOf [(26, con_impl_Press impl_Press)]) [] [⟨3, lp_impl_PressAll_3, impl_PressAll_L3 impl_Press ⟩] rfl Try.func30 rfl rfl rfl (gOf_cons h26 (gOf_nil)) (by kernel_rfl) [3] 0 (by kernel_rfl) (by kernel_rfl)
    (fun x => .cons (⟨3, lp_impl_PressAll_3, impl_PressAll_L3 impl_Press ⟩ : Lab (OKs [.v true [.int .i64, .bool, .int .i64, .int .i64, .str], .v false [.own (.pair (.int .i64) (.pair (.int .i64) (.pair (.int .i64) (.int .i64)))) 39]])) rfl rfl (by kernel_rfl) (by kernel_rfl) (.nil _))
theorem ok_impl_PressAll : CtrOK Try.prog 30 (con_impl_PressAll fun _ => g_impl_PressAll) := (okp_impl_PressAll _ ok_impl_Press).nice e_impl_PressAll

def lp_spec_PressAll_3 : LP := ⟨[(1, false, [.str]), (2, false, [.ptr 0 0]), (4, false, [.ptr 1 0]), (6, false, [.sl 2]), (7, false, [.int .i64])], [.box [.int .i64, .bool, .int .i64, .int .i64, .str] 30, .box [.int .i64, .bool, .int .i64, .int .i64, .str] 30, .row (.pair (.int .i64) (.pair (.int .i64) (.pair (.int .i64) (.int .i64)))) 39], 0⟩
theorem okp_spec_PressAll (spec_Press : Nat → (Int × Bool × Int × Int × ByteArray) × Int → Option ((Int × Bool × Int × Int × ByteArray) × (Int × Int × Int × Int) × Bool)) (h24 : CtrOK Try.prog 24 (con_spec_Press spec_Press)) : CtrOK Try.prog 32 (con_spec_PressAll (spec_PressAll_ spec_Press )) :=
  fun_ok (c := Try.f32.body.getD .skip) (con_spec_PressAll (spec_PressAll_ spec_Press )) (gOf [(24, con_spec_Press spec_Press)]) [] [⟨3, lp_spec_PressAll_3, spec_PressAll_L3 spec_Press ⟩] rfl Try.func32 rfl rfl rfl (gOf_cons h24 (gOf_nil)) (by kernel_rfl) [3] 0 (by kernel_rfl) (by kernel_rfl)
    (fun x => .cons (⟨3, lp_spec_PressAll_3, spec_PressAll_L3 spec_Press ⟩ : Lab (OKs [.v true [.int .i64, .bool, .int .i64, .int .i64, .str], .v false [.own (.pair (.int .i64) (.pair (.int .i64) (.pair (.int .i64) (.int .i64)))) 39]])) rfl rfl (by kernel_rfl) (by kernel_rfl) (.nil _))
theorem ok_spec_PressAll : CtrOK Try.prog 32 (con_spec_PressAll fun _ => g_spec_PressAll) := (okp_spec_PressAll _ ok_spec_Press).nice e_spec_PressAll

def lp_laws_heldOrderS_2 : LP := ⟨[(0, false, [.sl 0]), (1, false, [.int .i64]), (5, false, [.int .i64])], [.ro (.pair (.int .i64) (.pair (.int .i64) (.pair (.int .i64) (.int .i64)))) 0], 1⟩
theorem okp_laws_heldOrderS : CtrOK Try.prog 45 (con_laws_heldOrderS (laws_heldOrderS_ )) :=
  fun_ok (c := Try.f45.body.getD .skip) (con_laws_heldOrderS (laws_heldOrderS_ )) (gOf []) [] [⟨2, lp_laws_heldOrderS_2, laws_heldOrderS_L2 ⟩] rfl Try.func45 rfl rfl rfl (gOf_nil) (by kernel_rfl) [2] 1 (by kernel_rfl) (by kernel_rfl)
    (fun x => .cons (⟨2, lp_laws_heldOrderS_2, laws_heldOrderS_L2 ⟩ : Lab (OKs [.v false [.int .i64]])) rfl rfl (by kernel_rfl) (by kernel_rfl) (.nil _))
theorem ok_laws_heldOrderS : CtrOK Try.prog 45 (con_laws_heldOrderS fun _ => g_laws_heldOrderS) := (okp_laws_heldOrderS  ).nice e_laws_heldOrderS

def lp_laws_eqOrderS_4 : LP := ⟨[(0, false, [.sl 0]), (1, false, [.sl 1]), (5, false, [.int .i64])], [.ro (.pair (.int .i64) (.pair (.int .i64) (.pair (.int .i64) (.int .i64)))) 0, .ro (.pair (.int .i64) (.pair (.int .i64) (.pair (.int .i64) (.int .i64)))) 0], 2⟩
theorem okp_laws_eqOrderS (laws_eqOrder : Nat → (Int × Int × Int × Int) × (Int × Int × Int × Int) → Option (Bool)) (h22 : CtrOK Try.prog 22 (con_laws_eqOrder laws_eqOrder)) : CtrOK Try.prog 43 (con_laws_eqOrderS (laws_eqOrderS_ laws_eqOrder )) :=
  fun_ok (c := Try.f43.body.getD .skip) (con_laws_eqOrderS (laws_eqOrderS_ laws_eqOrder )) (gOf [(22, con_laws_eqOrder laws_eqOrder)]) [] [⟨4, lp_laws_eqOrderS_4, laws_eqOrderS_L4 laws_eqOrder ⟩] rfl Try.func43 rfl rfl rfl (gOf_cons h22 (gOf_nil)) (by kernel_rfl) [4] 2 (by kernel_rfl) (by kernel_rfl)
    (fun x => .cons (⟨4, lp_laws_eqOrderS_4, laws_eqOrderS_L4 laws_eqOrder ⟩ : Lab (OKs [.v false [.bool]])) rfl rfl (by kernel_rfl) (by kernel_rfl) (.nil _))
theorem ok_laws_eqOrderS : CtrOK Try.prog 43 (con_laws_eqOrderS fun _ => g_laws_eqOrderS) := (okp_laws_eqOrderS _ ok_laws_eqOrder).nice e_laws_eqOrderS

def lp_laws_markOrderS_2 : LP := ⟨[(0, false, [.sl 0]), (1, false, [.int .i64]), (5, false, [.int .i64])], [.row (.pair (.int .i64) (.pair (.int .i64) (.pair (.int .i64) (.int .i64)))) 39], 1⟩
theorem okp_laws_markOrderS : CtrOK Try.prog 44 (con_laws_markOrderS (laws_markOrderS_ )) :=
  fun_ok (c := Try.f44.body.getD .skip) (con_laws_markOrderS (laws_markOrderS_ )) (gOf []) [] [⟨2, lp_laws_markOrderS_2, laws_markOrderS_L2 ⟩] rfl Try.func44 rfl rfl rfl (gOf_nil) (by kernel_rfl) [2] 1 (by kernel_rfl) (by kernel_rfl)
    (fun x => .cons (⟨2, lp_laws_markOrderS_2, laws_markOrderS_L2 ⟩ : Lab (OKs [.v false [.int .i64], .row (.pair (.int .i64) (.pair (.int .i64) (.pair (.int .i64) (.int .i64)))) 39])) rfl rfl (by kernel_rfl) (by kernel_rfl) (.nil _))
theorem ok_laws_markOrderS : CtrOK Try.prog 44 (con_laws_markOrderS fun _ => g_laws_markOrderS) := (okp_laws_markOrderS  ).nice e_laws_markOrderS

theorem okp_laws_FnExactPressAll (impl_PressAll : Nat → (Int × Bool × Int × Int × ByteArray) × ByteArray → Option ((Int × Bool × Int × Int × ByteArray) × ((List (Int × (Int × (Int × Int))))))) (laws_eqMenu : Nat → (Int × Bool × Int × Int × ByteArray) × (Int × Bool × Int × Int × ByteArray) → Option (Bool)) (laws_eqOrderS : Nat → ((List (Int × (Int × (Int × Int))))) × ((List (Int × (Int × (Int × Int))))) → Option (Bool)) (laws_heldOrderS : Nat → ((List (Int × (Int × (Int × Int))))) × Int → Option (Int)) (laws_markOrderS : Nat → ((List (Int × (Int × (Int × Int))))) × Int → Option (Int × (List (Int × (Int × (Int × Int)))))) (laws_szMenu : Nat → (Int × Bool × Int × Int × ByteArray) × Int → Option (Int)) (laws_toMenu : Nat → (Int × Bool × Int × Int × ByteArray) → Option ((Int × Bool × Int × Int × ByteArray))) (spec_PressAll : Nat → (Int × Bool × Int × Int × ByteArray) × ByteArray → Option ((Int × Bool × Int × Int × ByteArray) × ((List (Int × (Int × (Int × Int))))))) (h30 : CtrOK Try.prog 30 (con_impl_PressAll impl_PressAll)) (h27 : CtrOK Try.prog 27 (con_laws_eqMenu laws_eqMenu)) (h43 : CtrOK Try.prog 43 (con_laws_eqOrderS laws_eqOrderS)) (h45 : CtrOK Try.prog 45 (con_laws_heldOrderS laws_heldOrderS)) (h44 : CtrOK Try.prog 44 (con_laws_markOrderS laws_markOrderS)) (h23 : CtrOK Try.prog 23 (con_laws_szMenu laws_szMenu)) (h25 : CtrOK Try.prog 25 (con_laws_toMenu laws_toMenu)) (h32 : CtrOK Try.prog 32 (con_spec_PressAll spec_PressAll)) : CtrOK Try.prog 9 (con_laws_FnExactPressAll (laws_FnExactPressAll_ impl_PressAll laws_eqMenu laws_eqOrderS laws_heldOrderS laws_markOrderS laws_szMenu laws_toMenu spec_PressAll )) :=
  fun_ok0 (c := Try.f9.body.getD .skip) (con_laws_FnExactPressAll (laws_FnExactPressAll_ impl_PressAll laws_eqMenu laws_eqOrderS laws_heldOrderS laws_markOrderS laws_szMenu laws_toMenu spec_PressAll )) (gOf [(30, con_impl_PressAll impl_PressAll), (27, con_laws_eqMenu laws_eqMenu), (43, con_laws_eqOrderS laws_eqOrderS), (45, con_laws_heldOrderS laws_heldOrderS), (44, con_laws_markOrderS laws_markOrderS), (23, con_laws_szMenu laws_szMenu), (25, con_laws_toMenu laws_toMenu), (32, con_spec_PressAll spec_PressAll)]) rfl Try.func9 rfl rfl rfl (gOf_cons h30 (gOf_cons h27 (gOf_cons h43 (gOf_cons h45 (gOf_cons h44 (gOf_cons h23 (gOf_cons h25 (gOf_cons h32 (gOf_nil))))))))) (by kernel_rfl) (by kernel_rfl)
theorem ok_laws_FnExactPressAll : CtrOK Try.prog 9 (con_laws_FnExactPressAll fun _ => g_laws_FnExactPressAll) := (okp_laws_FnExactPressAll _ _ _ _ _ _ _ _ ok_impl_PressAll ok_laws_eqMenu ok_laws_eqOrderS ok_laws_heldOrderS ok_laws_markOrderS ok_laws_szMenu ok_laws_toMenu ok_spec_PressAll).nice e_laws_FnExactPressAll

end Go.Sx.T
