/- Functions of the program as functions of Lean, and that the program keeps to them. -/
import Derived.Test.YtkcfdkfdmglamaaFnExactLatchedA0
import Derived.Test.YtkcfdkfdmglamaaProg
set_option maxRecDepth 100000
set_option linter.unusedVariables false
set_option linter.unusedSimpArgs false
namespace Go.Proofs
end Go.Proofs
namespace Go.Sx.T
open Go Go.Sx Go.Proofs Go.RowKit
theorem okp_impl_within : CtrOK Try.prog 122 (con_impl_within (impl_within_ )) :=
  fun_ok0 (c := Try.f122.body.getD .skip) (con_impl_within (impl_within_ )) (gOf []) rfl Try.func122 rfl rfl rfl (gOf_nil) (by kernel_rfl) (by kernel_rfl)
theorem ok_impl_within : CtrOK Try.prog 122 (con_impl_within fun _ => g_impl_within) := (okp_impl_within  ).nice e_impl_within

theorem okp_impl_MenuNew : CtrOK Try.prog 64 (con_impl_MenuNew (impl_MenuNew_ )) :=
  fun_ok0 (c := Try.f64.body.getD .skip) (con_impl_MenuNew (impl_MenuNew_ )) (gOf []) rfl Try.func64 rfl rfl rfl (gOf_nil) (by kernel_rfl) (by kernel_rfl)
theorem ok_impl_MenuNew : CtrOK Try.prog 64 (con_impl_MenuNew fun _ => g_impl_MenuNew) := (okp_impl_MenuNew  ).nice e_impl_MenuNew

def lp_impl_MenuOk_2 : LP := ⟨[(1, false, [.ptr 0 0]), (6, false, [.int .i64]), (7, false, [.int .i64])], [.box [.int .i64, .bool, .int .i64, .int .i64, .str] 40], 0⟩
theorem okp_impl_MenuOk (impl_MenuNew : Nat → Unit → Option ((Int × Bool × Int × Int × ByteArray))) (impl_within : Nat → Int × Int × Int → Option (Bool)) (h64 : CtrOK Try.prog 64 (con_impl_MenuNew impl_MenuNew)) (h122 : CtrOK Try.prog 122 (con_impl_within impl_within)) : CtrOK Try.prog 51 (con_impl_MenuOk (impl_MenuOk_ impl_MenuNew impl_within )) :=
  fun_ok (c := Try.f51.body.getD .skip) (con_impl_MenuOk (impl_MenuOk_ impl_MenuNew impl_within )) (gOf [(64, con_impl_MenuNew impl_MenuNew), (122, con_impl_within impl_within)]) [] [⟨2, lp_impl_MenuOk_2, impl_MenuOk_L2 impl_MenuNew impl_within ⟩] rfl Try.func51 rfl rfl rfl (gOf_cons h64 (gOf_cons h122 (gOf_nil))) (by kernel_rfl) [2] 0 (by kernel_rfl) (by kernel_rfl)
    (fun x => .cons (⟨2, lp_impl_MenuOk_2, impl_MenuOk_L2 impl_MenuNew impl_within ⟩ : Lab (OKs [.v false [.bool]])) rfl rfl (by kernel_rfl) (by kernel_rfl) (.nil _))
theorem ok_impl_MenuOk : CtrOK Try.prog 51 (con_impl_MenuOk fun _ => g_impl_MenuOk) := (okp_impl_MenuOk _ _ ok_impl_MenuNew ok_impl_within).nice e_impl_MenuOk

theorem okp_impl_SenseOk (impl_within : Nat → Int × Int × Int → Option (Bool)) (h122 : CtrOK Try.prog 122 (con_impl_within impl_within)) : CtrOK Try.prog 74 (con_impl_SenseOk (impl_SenseOk_ impl_within )) :=
  fun_ok0 (c := Try.f74.body.getD .skip) (con_impl_SenseOk (impl_SenseOk_ impl_within )) (gOf [(122, con_impl_within impl_within)]) rfl Try.func74 rfl rfl rfl (gOf_cons h122 (gOf_nil)) (by kernel_rfl) (by kernel_rfl)
theorem ok_impl_SenseOk : CtrOK Try.prog 74 (con_impl_SenseOk fun _ => g_impl_SenseOk) := (okp_impl_SenseOk _ ok_impl_within).nice e_impl_SenseOk

def lp_impl_isSeen_2 : LP := ⟨[(5, false, [.sl 0]), (6, false, [.int .i64]), (7, false, [.int .i64])], [.ro (.pair (.int .i64) (.pair (.int .i64) (.pair (.int .i64) (.int .i64)))) 0], 1⟩
theorem okp_impl_isSeen : CtrOK Try.prog 59 (con_impl_isSeen (impl_isSeen_ )) :=
  fun_ok (c := Try.f59.body.getD .skip) (con_impl_isSeen (impl_isSeen_ )) (gOf []) [] [⟨2, lp_impl_isSeen_2, impl_isSeen_L2 ⟩] rfl Try.func59 rfl rfl rfl (gOf_nil) (by kernel_rfl) [2] 1 (by kernel_rfl) (by kernel_rfl)
    (fun x => .cons (⟨2, lp_impl_isSeen_2, impl_isSeen_L2 ⟩ : Lab (OKs [.v false [.bool]])) rfl rfl (by kernel_rfl) (by kernel_rfl) (.nil _))
theorem ok_impl_isSeen : CtrOK Try.prog 59 (con_impl_isSeen fun _ => g_impl_isSeen) := (okp_impl_isSeen  ).nice e_impl_isSeen

theorem okp_impl_OrderOk (impl_within : Nat → Int × Int × Int → Option (Bool)) (h122 : CtrOK Try.prog 122 (con_impl_within impl_within)) : CtrOK Try.prog 131 (con_impl_OrderOk (impl_OrderOk_ impl_within )) :=
  fun_ok0 (c := Try.f131.body.getD .skip) (con_impl_OrderOk (impl_OrderOk_ impl_within )) (gOf [(122, con_impl_within impl_within)]) rfl Try.func131 rfl rfl rfl (gOf_cons h122 (gOf_nil)) (by kernel_rfl) (by kernel_rfl)
theorem ok_impl_OrderOk : CtrOK Try.prog 131 (con_impl_OrderOk fun _ => g_impl_OrderOk) := (okp_impl_OrderOk _ ok_impl_within).nice e_impl_OrderOk

def lp_impl_ReadVar_5 : LP := ⟨[(0, false, [.str]), (1, false, [.int .i64]), (7, false, [.int .i64]), (8, false, [.int .i64])], [], 0⟩
theorem okp_impl_ReadVar (impl_within : Nat → Int × Int × Int → Option (Bool)) (h122 : CtrOK Try.prog 122 (con_impl_within impl_within)) : CtrOK Try.prog 187 (con_impl_ReadVar (impl_ReadVar_ impl_within )) :=
  fun_ok (c := Try.f187.body.getD .skip) (con_impl_ReadVar (impl_ReadVar_ impl_within )) (gOf [(122, con_impl_within impl_within)]) [] [⟨5, lp_impl_ReadVar_5, impl_ReadVar_L5 impl_within ⟩] rfl Try.func187 rfl rfl rfl (gOf_cons h122 (gOf_nil)) (by kernel_rfl) [5] 0 (by kernel_rfl) (by kernel_rfl)
    (fun x => .cons (⟨5, lp_impl_ReadVar_5, impl_ReadVar_L5 impl_within ⟩ : Lab (OKs [.v false [.int .i64], .v false [.int .i64], .v false [.bool]])) rfl rfl (by kernel_rfl) (by kernel_rfl) (.nil _))
theorem ok_impl_ReadVar : CtrOK Try.prog 187 (con_impl_ReadVar fun _ => g_impl_ReadVar) := (okp_impl_ReadVar _ ok_impl_within).nice e_impl_ReadVar

theorem okp_impl_reader__number (impl_ReadVar : Nat → ByteArray × Int → Option (Int × Int × Bool)) (h187 : CtrOK Try.prog 187 (con_impl_ReadVar impl_ReadVar)) : CtrOK Try.prog 130 (con_impl_reader__number (impl_reader__number_ impl_ReadVar )) :=
  fun_ok0 (c := Try.f130.body.getD .skip) (con_impl_reader__number (impl_reader__number_ impl_ReadVar )) (gOf [(187, con_impl_ReadVar impl_ReadVar)]) rfl Try.func130 rfl rfl rfl (gOf_cons h187 (gOf_nil)) (by kernel_rfl) (by kernel_rfl)
theorem ok_impl_reader__number : CtrOK Try.prog 130 (con_impl_reader__number fun _ => g_impl_reader__number) := (okp_impl_reader__number _ ok_impl_ReadVar).nice e_impl_reader__number

def lp_impl_highFirst_3 : LP := ⟨[(0, false, [.int .i64]), (5, false, [.sl 0]), (6, false, [.int .i64])], [.row (.int .u8) 5], 0⟩
theorem okp_impl_highFirst : CtrOK Try.prog 232 (con_impl_highFirst (impl_highFirst_ )) :=
  fun_ok (c := Try.f232.body.getD .skip) (con_impl_highFirst (impl_highFirst_ )) (gOf []) [] [⟨3, lp_impl_highFirst_3, impl_highFirst_L3 ⟩] rfl Try.func232 rfl rfl rfl (gOf_nil) (by kernel_rfl) [3] 0 (by kernel_rfl) (by kernel_rfl)
    (fun x => .cons (⟨3, lp_impl_highFirst_3, impl_highFirst_L3 ⟩ : Lab (OKs [.v false [.str]])) rfl rfl (by kernel_rfl) (by kernel_rfl) (.nil _))
theorem ok_impl_highFirst : CtrOK Try.prog 232 (con_impl_highFirst fun _ => g_impl_highFirst) := (okp_impl_highFirst  ).nice e_impl_highFirst

def lp_impl_SumMore_2 : LP := ⟨[(0, false, [.int .u32]), (1, false, [.str]), (5, false, [.int .i64])], [], 0⟩
def lp_impl_SumMore_6 : LP := ⟨[(0, false, [.int .u32]), (1, false, [.str]), (5, false, [.int .i64]), (19, false, [.int .i64])], [], 0⟩
theorem okp_impl_SumMore : CtrOK Try.prog 248 (con_impl_SumMore (impl_SumMore_ )) :=
  fun_ok (c := Try.f248.body.getD .skip) (con_impl_SumMore (impl_SumMore_ )) (gOf []) [] [⟨2, lp_impl_SumMore_2, impl_SumMore_L2 ⟩, ⟨6, lp_impl_SumMore_6, impl_SumMore_L6 ⟩] rfl Try.func248 rfl rfl rfl (gOf_nil) (by kernel_rfl) [2, 6] 0 (by kernel_rfl) (by kernel_rfl)
    (fun x => .cons (⟨2, lp_impl_SumMore_2, impl_SumMore_L2 ⟩ : Lab (OKs [.v false [.int .u32]])) rfl rfl (by kernel_rfl) (by kernel_rfl) (.cons (⟨6, lp_impl_SumMore_6, impl_SumMore_L6 ⟩ : Lab (OKs [.v false [.int .u32]])) rfl rfl (by kernel_rfl) (by kernel_rfl) (.nil _)))
theorem ok_impl_SumMore : CtrOK Try.prog 248 (con_impl_SumMore fun _ => g_impl_SumMore) := (okp_impl_SumMore  ).nice e_impl_SumMore

theorem okp_impl_SumOf (impl_SumMore : Nat → Int × ByteArray → Option (Int)) (h248 : CtrOK Try.prog 248 (con_impl_SumMore impl_SumMore)) : CtrOK Try.prog 233 (con_impl_SumOf (impl_SumOf_ impl_SumMore )) :=
  fun_ok0 (c := Try.f233.body.getD .skip) (con_impl_SumOf (impl_SumOf_ impl_SumMore )) (gOf [(248, con_impl_SumMore impl_SumMore)]) rfl Try.func233 rfl rfl rfl (gOf_cons h248 (gOf_nil)) (by kernel_rfl) (by kernel_rfl)
theorem ok_impl_SumOf : CtrOK Try.prog 233 (con_impl_SumOf fun _ => g_impl_SumOf) := (okp_impl_SumOf _ ok_impl_SumMore).nice e_impl_SumOf

theorem okp_impl_Sealed (impl_SumOf : Nat → ByteArray → Option (Int)) (impl_highFirst : Nat → Int × Int → Option (ByteArray)) (h233 : CtrOK Try.prog 233 (con_impl_SumOf impl_SumOf)) (h232 : CtrOK Try.prog 232 (con_impl_highFirst impl_highFirst)) : CtrOK Try.prog 186 (con_impl_Sealed (impl_Sealed_ impl_SumOf impl_highFirst )) :=
  fun_ok0 (c := Try.f186.body.getD .skip) (con_impl_Sealed (impl_Sealed_ impl_SumOf impl_highFirst )) (gOf [(233, con_impl_SumOf impl_SumOf), (232, con_impl_highFirst impl_highFirst)]) rfl Try.func186 rfl rfl rfl (gOf_cons h233 (gOf_cons h232 (gOf_nil))) (by kernel_rfl) (by kernel_rfl)
theorem ok_impl_Sealed : CtrOK Try.prog 186 (con_impl_Sealed fun _ => g_impl_Sealed) := (okp_impl_Sealed _ _ ok_impl_SumOf ok_impl_highFirst).nice e_impl_Sealed

theorem okp_impl_Unsealed (impl_Sealed : Nat → ByteArray → Option (ByteArray × Bool)) (h186 : CtrOK Try.prog 186 (con_impl_Sealed impl_Sealed)) : CtrOK Try.prog 129 (con_impl_Unsealed (impl_Unsealed_ impl_Sealed )) :=
  fun_ok0 (c := Try.f129.body.getD .skip) (con_impl_Unsealed (impl_Unsealed_ impl_Sealed )) (gOf [(186, con_impl_Sealed impl_Sealed)]) rfl Try.func129 rfl rfl rfl (gOf_cons h186 (gOf_nil)) (by kernel_rfl) (by kernel_rfl)
theorem ok_impl_Unsealed : CtrOK Try.prog 129 (con_impl_Unsealed fun _ => g_impl_Unsealed) := (okp_impl_Unsealed _ ok_impl_Sealed).nice e_impl_Unsealed

theorem okp_impl_ReadOrder (impl_OrderOk : Nat → (Int × Int × Int × Int) → Option (Bool)) (impl_Unsealed : Nat → ByteArray → Option (ByteArray × Bool)) (impl_reader__number : Nat → (ByteArray × Int × Bool) → Option (Int × (ByteArray × Int × Bool))) (h131 : CtrOK Try.prog 131 (con_impl_OrderOk impl_OrderOk)) (h129 : CtrOK Try.prog 129 (con_impl_Unsealed impl_Unsealed)) (h130 : CtrOK Try.prog 130 (con_impl_reader__number impl_reader__number)) : CtrOK Try.prog 57 (con_impl_ReadOrder (impl_ReadOrder_ impl_OrderOk impl_Unsealed impl_reader__number )) :=
  fun_ok0 (c := Try.f57.body.getD .skip) (con_impl_ReadOrder (impl_ReadOrder_ impl_OrderOk impl_Unsealed impl_reader__number )) (gOf [(131, con_impl_OrderOk impl_OrderOk), (129, con_impl_Unsealed impl_Unsealed), (130, con_impl_reader__number impl_reader__number)]) rfl Try.func57 rfl rfl rfl (gOf_cons h131 (gOf_cons h129 (gOf_cons h130 (gOf_nil)))) (by kernel_rfl) (by kernel_rfl)
theorem ok_impl_ReadOrder : CtrOK Try.prog 57 (con_impl_ReadOrder fun _ => g_impl_ReadOrder) := (okp_impl_ReadOrder _ _ _ ok_impl_OrderOk ok_impl_Unsealed ok_impl_reader__number).nice e_impl_ReadOrder

def lp_impl_typed_3 : LP := ⟨[(0, false, [.str]), (3, false, [.int .i64]), (6, false, [.int .i64]), (7, false, [.int .i64])], [], 0⟩
theorem okp_impl_typed : CtrOK Try.prog 247 (con_impl_typed (impl_typed_ )) :=
  fun_ok (c := Try.f247.body.getD .skip) (con_impl_typed (impl_typed_ )) (gOf []) [] [⟨3, lp_impl_typed_3, impl_typed_L3 ⟩] rfl Try.func247 rfl rfl rfl (gOf_nil) (by kernel_rfl) [3] 0 (by kernel_rfl) (by kernel_rfl)
    (fun x => .cons (⟨3, lp_impl_typed_3, impl_typed_L3 ⟩ : Lab (OKs [.v false [.int .i64]])) rfl rfl (by kernel_rfl) (by kernel_rfl) (.nil _))
theorem ok_impl_typed : CtrOK Try.prog 247 (con_impl_typed fun _ => g_impl_typed) := (okp_impl_typed  ).nice e_impl_typed

theorem okp_impl_Menu__enter (impl_MenuNew : Nat → Unit → Option ((Int × Bool × Int × Int × ByteArray))) (impl_OrderOk : Nat → (Int × Int × Int × Int) → Option (Bool)) (impl_typed : Nat → ByteArray → Option (Int)) (h64 : CtrOK Try.prog 64 (con_impl_MenuNew impl_MenuNew)) (h131 : CtrOK Try.prog 131 (con_impl_OrderOk impl_OrderOk)) (h247 : CtrOK Try.prog 247 (con_impl_typed impl_typed)) : CtrOK Try.prog 231 (con_impl_Menu__enter (impl_Menu__enter_ impl_MenuNew impl_OrderOk impl_typed )) :=
  fun_ok0 (c := Try.f231.body.getD .skip) (con_impl_Menu__enter (impl_Menu__enter_ impl_MenuNew impl_OrderOk impl_typed )) (gOf [(64, con_impl_MenuNew impl_MenuNew), (131, con_impl_OrderOk impl_OrderOk), (247, con_impl_typed impl_typed)]) rfl Try.func231 rfl rfl rfl (gOf_cons h64 (gOf_cons h131 (gOf_cons h247 (gOf_nil)))) (by kernel_rfl) (by kernel_rfl)
theorem ok_impl_Menu__enter : CtrOK Try.prog 231 (con_impl_Menu__enter fun _ => g_impl_Menu__enter) := (okp_impl_Menu__enter _ _ _ ok_impl_MenuNew ok_impl_OrderOk ok_impl_typed).nice e_impl_Menu__enter

theorem okp_impl_Menu__top : CtrOK Try.prog 230 (con_impl_Menu__top (impl_Menu__top_ )) :=
  fun_ok0 (c := Try.f230.body.getD .skip) (con_impl_Menu__top (impl_Menu__top_ )) (gOf []) rfl Try.func230 rfl rfl rfl (gOf_nil) (by kernel_rfl) (by kernel_rfl)
theorem ok_impl_Menu__top : CtrOK Try.prog 230 (con_impl_Menu__top fun _ => g_impl_Menu__top) := (okp_impl_Menu__top  ).nice e_impl_Menu__top

theorem okp_impl_Press (impl_MenuNew : Nat → Unit → Option ((Int × Bool × Int × Int × ByteArray))) (impl_MenuOk : Nat → (Int × Bool × Int × Int × ByteArray) → Option (Bool)) (impl_Menu__enter : Nat → (Int × Bool × Int × Int × ByteArray) → Option ((Int × Bool × Int × Int × ByteArray) × (Int × Int × Int × Int) × Bool)) (impl_Menu__top : Nat → (Int × Bool × Int × Int × ByteArray) × Int → Option ((Int × Bool × Int × Int × ByteArray) × (Int × Int × Int × Int) × Bool)) (impl_within : Nat → Int × Int × Int → Option (Bool)) (h64 : CtrOK Try.prog 64 (con_impl_MenuNew impl_MenuNew)) (h51 : CtrOK Try.prog 51 (con_impl_MenuOk impl_MenuOk)) (h231 : CtrOK Try.prog 231 (con_impl_Menu__enter impl_Menu__enter)) (h230 : CtrOK Try.prog 230 (con_impl_Menu__top impl_Menu__top)) (h122 : CtrOK Try.prog 122 (con_impl_within impl_within)) : CtrOK Try.prog 185 (con_impl_Press (impl_Press_ impl_MenuNew impl_MenuOk impl_Menu__enter impl_Menu__top impl_within )) :=
  fun_ok0 (c := Try.f185.body.getD .skip) (con_impl_Press (impl_Press_ impl_MenuNew impl_MenuOk impl_Menu__enter impl_Menu__top impl_within )) (gOf [(64, con_impl_MenuNew impl_MenuNew), (51, con_impl_MenuOk impl_MenuOk), (231, con_impl_Menu__enter impl_Menu__enter), (230, con_impl_Menu__top impl_Menu__top), (122, con_impl_within impl_within)]) rfl Try.func185 rfl rfl rfl (gOf_cons h64 (gOf_cons h51 (gOf_cons h231 (gOf_cons h230 (gOf_cons h122 (gOf_nil)))))) (by kernel_rfl) (by kernel_rfl)
theorem ok_impl_Press : CtrOK Try.prog 185 (con_impl_Press fun _ => g_impl_Press) := (okp_impl_Press _ _ _ _ _ ok_impl_MenuNew ok_impl_MenuOk ok_impl_Menu__enter ok_impl_Menu__top ok_impl_within).nice e_impl_Press

def lp_impl_PressAll_3 : LP := ⟨[(1, false, [.str]), (2, false, [.ptr 0 0]), (4, false, [.ptr 1 0]), (6, false, [.sl 2]), (13, false, [.int .i64]), (14, false, [.int .i64])], [.box [.int .i64, .bool, .int .i64, .int .i64, .str] 40, .box [.int .i64, .bool, .int .i64, .int .i64, .str] 40, .row (.pair (.int .i64) (.pair (.int .i64) (.pair (.int .i64) (.int .i64)))) 27], 0⟩
theorem okp_impl_PressAll (impl_Press : Nat → (Int × Bool × Int × Int × ByteArray) × Int → Option ((Int × Bool × Int × Int × ByteArray) × (Int × Int × Int × Int) × Bool)) (h185 : CtrOK Try.prog 185 (con_impl_Press impl_Press)) : CtrOK Try.prog 127 (con_impl_PressAll (impl_PressAll_ impl_Press )) :=
  fun_ok (c := Try.f127.body.getD .skip) (con_impl_PressAll (impl_PressAll_ impl_Press )) (gOf [(185, con_impl_Press impl_Press)]) [] [⟨3, lp_impl_PressAll_3, impl_PressAll_L3 impl_Press ⟩] rfl Try.func127 rfl rfl rfl (gOf_cons h185 (gOf_nil)) (by kernel_rfl) [3] 0 (by kernel_rfl) (by kernel_rfl)
    (fun x => .cons (⟨3, lp_impl_PressAll_3, impl_PressAll_L3 impl_Press ⟩ : Lab (OKs [.v true [.int .i64, .bool, .int .i64, .int .i64, .str], .v false [.own (.pair (.int .i64) (.pair (.int .i64) (.pair (.int .i64) (.int .i64)))) 27]])) rfl rfl (by kernel_rfl) (by kernel_rfl) (.nil _))
theorem ok_impl_PressAll : CtrOK Try.prog 127 (con_impl_PressAll fun _ => g_impl_PressAll) := (okp_impl_PressAll _ ok_impl_Press).nice e_impl_PressAll

theorem okp_impl_ordersOf (impl_PressAll : Nat → (Int × Bool × Int × Int × ByteArray) × ByteArray → Option ((Int × Bool × Int × Int × ByteArray) × ((List (Int × (Int × (Int × Int))))))) (impl_ReadOrder : Nat → ByteArray → Option ((Int × Int × Int × Int) × Bool)) (h127 : CtrOK Try.prog 127 (con_impl_PressAll impl_PressAll)) (h57 : CtrOK Try.prog 57 (con_impl_ReadOrder impl_ReadOrder)) : CtrOK Try.prog 55 (con_impl_ordersOf (impl_ordersOf_ impl_PressAll impl_ReadOrder )) :=
  fun_ok0 (c := Try.f55.body.getD .skip) (con_impl_ordersOf (impl_ordersOf_ impl_PressAll impl_ReadOrder )) (gOf [(127, con_impl_PressAll impl_PressAll), (57, con_impl_ReadOrder impl_ReadOrder)]) rfl Try.func55 rfl rfl rfl (gOf_cons h127 (gOf_cons h57 (gOf_nil))) (by kernel_rfl) (by kernel_rfl)
theorem ok_impl_ordersOf : CtrOK Try.prog 55 (con_impl_ordersOf fun _ => g_impl_ordersOf) := (okp_impl_ordersOf _ _ ok_impl_PressAll ok_impl_ReadOrder).nice e_impl_ordersOf

theorem okp_spec_l02Four : CtrOK Try.prog 120 (con_spec_l02Four (spec_l02Four_ )) :=
  fun_ok0 (c := Try.f120.body.getD .skip) (con_spec_l02Four (spec_l02Four_ )) (gOf []) rfl Try.func120 rfl rfl rfl (gOf_nil) (by kernel_rfl) (by kernel_rfl)
theorem ok_spec_l02Four : CtrOK Try.prog 120 (con_spec_l02Four fun _ => g_spec_l02Four) := (okp_spec_l02Four  ).nice e_spec_l02Four

def lp_spec_SumMore_2 : LP := ⟨[(0, false, [.int .u32]), (1, false, [.str]), (5, false, [.int .i64])], [], 0⟩
def lp_spec_SumMore_6 : LP := ⟨[(0, false, [.int .u32]), (1, false, [.str]), (5, false, [.int .i64]), (6, false, [.int .i64])], [], 0⟩
theorem okp_spec_SumMore : CtrOK Try.prog 184 (con_spec_SumMore (spec_SumMore_ )) :=
  fun_ok (c := Try.f184.body.getD .skip) (con_spec_SumMore (spec_SumMore_ )) (gOf []) [] [⟨2, lp_spec_SumMore_2, spec_SumMore_L2 ⟩, ⟨6, lp_spec_SumMore_6, spec_SumMore_L6 ⟩] rfl Try.func184 rfl rfl rfl (gOf_nil) (by kernel_rfl) [2, 6] 0 (by kernel_rfl) (by kernel_rfl)
    (fun x => .cons (⟨2, lp_spec_SumMore_2, spec_SumMore_L2 ⟩ : Lab (OKs [.v false [.int .u32]])) rfl rfl (by kernel_rfl) (by kernel_rfl) (.cons (⟨6, lp_spec_SumMore_6, spec_SumMore_L6 ⟩ : Lab (OKs [.v false [.int .u32]])) rfl rfl (by kernel_rfl) (by kernel_rfl) (.nil _)))
theorem ok_spec_SumMore : CtrOK Try.prog 184 (con_spec_SumMore fun _ => g_spec_SumMore) := (okp_spec_SumMore  ).nice e_spec_SumMore

theorem okp_spec_SumOf (spec_SumMore : Nat → Int × ByteArray → Option (Int)) (h184 : CtrOK Try.prog 184 (con_spec_SumMore spec_SumMore)) : CtrOK Try.prog 121 (con_spec_SumOf (spec_SumOf_ spec_SumMore )) :=
  fun_ok0 (c := Try.f121.body.getD .skip) (con_spec_SumOf (spec_SumOf_ spec_SumMore )) (gOf [(184, con_spec_SumMore spec_SumMore)]) rfl Try.func121 rfl rfl rfl (gOf_cons h184 (gOf_nil)) (by kernel_rfl) (by kernel_rfl)
theorem ok_spec_SumOf : CtrOK Try.prog 121 (con_spec_SumOf fun _ => g_spec_SumOf) := (okp_spec_SumOf _ ok_spec_SumMore).nice e_spec_SumOf

theorem okp_spec_Sealed (spec_SumOf : Nat → ByteArray → Option (Int)) (spec_l02Four : Nat → Int → Option (ByteArray)) (h121 : CtrOK Try.prog 121 (con_spec_SumOf spec_SumOf)) (h120 : CtrOK Try.prog 120 (con_spec_l02Four spec_l02Four)) : CtrOK Try.prog 47 (con_spec_Sealed (spec_Sealed_ spec_SumOf spec_l02Four )) :=
  fun_ok0 (c := Try.f47.body.getD .skip) (con_spec_Sealed (spec_Sealed_ spec_SumOf spec_l02Four )) (gOf [(121, con_spec_SumOf spec_SumOf), (120, con_spec_l02Four spec_l02Four)]) rfl Try.func47 rfl rfl rfl (gOf_cons h121 (gOf_cons h120 (gOf_nil))) (by kernel_rfl) (by kernel_rfl)
theorem ok_spec_Sealed : CtrOK Try.prog 47 (con_spec_Sealed fun _ => g_spec_Sealed) := (okp_spec_Sealed _ _ ok_spec_SumOf ok_spec_l02Four).nice e_spec_Sealed

def lp_spec_l01Var_2 : LP := ⟨[(0, false, [.int .i64]), (3, false, [.sl 0])], [.row (.int .u8) 5], 0⟩
theorem okp_spec_l01Var : CtrOK Try.prog 48 (con_spec_l01Var (spec_l01Var_ )) :=
  fun_ok (c := Try.f48.body.getD .skip) (con_spec_l01Var (spec_l01Var_ )) (gOf []) [] [⟨2, lp_spec_l01Var_2, spec_l01Var_L2 ⟩] rfl Try.func48 rfl rfl rfl (gOf_nil) (by kernel_rfl) [2] 0 (by kernel_rfl) (by kernel_rfl)
    (fun x => .cons (⟨2, lp_spec_l01Var_2, spec_l01Var_L2 ⟩ : Lab (OKs [.v false [.str]])) rfl rfl (by kernel_rfl) (by kernel_rfl) (.nil _))
theorem ok_spec_l01Var : CtrOK Try.prog 48 (con_spec_l01Var fun _ => g_spec_l01Var) := (okp_spec_l01Var  ).nice e_spec_l01Var

theorem okp_spec_l01In : CtrOK Try.prog 119 (con_spec_l01In (spec_l01In_ )) :=
  fun_ok0 (c := Try.f119.body.getD .skip) (con_spec_l01In (spec_l01In_ )) (gOf []) rfl Try.func119 rfl rfl rfl (gOf_nil) (by kernel_rfl) (by kernel_rfl)
theorem ok_spec_l01In : CtrOK Try.prog 119 (con_spec_l01In fun _ => g_spec_l01In) := (okp_spec_l01In  ).nice e_spec_l01In

theorem okp_spec_OrderOk (spec_l01In : Nat → Int × Int × Int → Option (Bool)) (h119 : CtrOK Try.prog 119 (con_spec_l01In spec_l01In)) : CtrOK Try.prog 46 (con_spec_OrderOk (spec_OrderOk_ spec_l01In )) :=
  fun_ok0 (c := Try.f46.body.getD .skip) (con_spec_OrderOk (spec_OrderOk_ spec_l01In )) (gOf [(119, con_spec_l01In spec_l01In)]) rfl Try.func46 rfl rfl rfl (gOf_cons h119 (gOf_nil)) (by kernel_rfl) (by kernel_rfl)
theorem ok_spec_OrderOk : CtrOK Try.prog 46 (con_spec_OrderOk fun _ => g_spec_OrderOk) := (okp_spec_OrderOk _ ok_spec_l01In).nice e_spec_OrderOk

theorem okp_spec_OrderText (spec_OrderOk : Nat → (Int × Int × Int × Int) → Option (Bool)) (spec_Sealed : Nat → ByteArray → Option (ByteArray × Bool)) (spec_l01Var : Nat → Int → Option (ByteArray)) (h46 : CtrOK Try.prog 46 (con_spec_OrderOk spec_OrderOk)) (h47 : CtrOK Try.prog 47 (con_spec_Sealed spec_Sealed)) (h48 : CtrOK Try.prog 48 (con_spec_l01Var spec_l01Var)) : CtrOK Try.prog 12 (con_spec_OrderText (spec_OrderText_ spec_OrderOk spec_Sealed spec_l01Var )) :=
  fun_ok0 (c := Try.f12.body.getD .skip) (con_spec_OrderText (spec_OrderText_ spec_OrderOk spec_Sealed spec_l01Var )) (gOf [(46, con_spec_OrderOk spec_OrderOk), (47, con_spec_Sealed spec_Sealed), (48, con_spec_l01Var spec_l01Var)]) rfl Try.func12 rfl rfl rfl (gOf_cons h46 (gOf_cons h47 (gOf_cons h48 (gOf_nil)))) (by kernel_rfl) (by kernel_rfl)
theorem ok_spec_OrderText : CtrOK Try.prog 12 (con_spec_OrderText fun _ => g_spec_OrderText) := (okp_spec_OrderText _ _ _ ok_spec_OrderOk ok_spec_Sealed ok_spec_l01Var).nice e_spec_OrderText

theorem okp_laws_eqIn : CtrOK Try.prog 76 (con_laws_eqIn (laws_eqIn_ )) :=
  fun_ok0 (c := Try.f76.body.getD .skip) (con_laws_eqIn (laws_eqIn_ )) (gOf []) rfl Try.func76 rfl rfl rfl (gOf_nil) (by kernel_rfl) (by kernel_rfl)
theorem ok_laws_eqIn : CtrOK Try.prog 76 (con_laws_eqIn fun _ => g_laws_eqIn) := (okp_laws_eqIn  ).nice e_laws_eqIn

def lp_laws_eqInS_4 : LP := ⟨[(0, false, [.sl 0]), (1, false, [.sl 1]), (5, false, [.int .i64])], [.ro (.pair (.int .i64) (.pair .str .str)) 0, .ro (.pair (.int .i64) (.pair .str .str)) 0], 2⟩
theorem okp_laws_eqInS (laws_eqIn : Nat → (Int × ByteArray × ByteArray) × (Int × ByteArray × ByteArray) → Option (Bool)) (h76 : CtrOK Try.prog 76 (con_laws_eqIn laws_eqIn)) : CtrOK Try.prog 29 (con_laws_eqInS (laws_eqInS_ laws_eqIn )) :=
  fun_ok (c := Try.f29.body.getD .skip) (con_laws_eqInS (laws_eqInS_ laws_eqIn )) (gOf [(76, con_laws_eqIn laws_eqIn)]) [] [⟨4, lp_laws_eqInS_4, laws_eqInS_L4 laws_eqIn ⟩] rfl Try.func29 rfl rfl rfl (gOf_cons h76 (gOf_nil)) (by kernel_rfl) [4] 2 (by kernel_rfl) (by kernel_rfl)
    (fun x => .cons (⟨4, lp_laws_eqInS_4, laws_eqInS_L4 laws_eqIn ⟩ : Lab (OKs [.v false [.bool]])) rfl rfl (by kernel_rfl) (by kernel_rfl) (.nil _))
theorem ok_laws_eqInS : CtrOK Try.prog 29 (con_laws_eqInS fun _ => g_laws_eqInS) := (okp_laws_eqInS _ ok_laws_eqIn).nice e_laws_eqInS

theorem okp_laws_toIn : CtrOK Try.prog 73 (con_laws_toIn (laws_toIn_ )) :=
  fun_ok0 (c := Try.f73.body.getD .skip) (con_laws_toIn (laws_toIn_ )) (gOf []) rfl Try.func73 rfl rfl rfl (gOf_nil) (by kernel_rfl) (by kernel_rfl)
theorem ok_laws_toIn : CtrOK Try.prog 73 (con_laws_toIn fun _ => g_laws_toIn) := (okp_laws_toIn  ).nice e_laws_toIn

def lp_laws_toInS_3 : LP := ⟨[(0, false, [.sl 0]), (3, false, [.sl 1]), (4, false, [.int .i64])], [.ro (.pair (.int .i64) (.pair .str .str)) 0, .row (.pair (.int .i64) (.pair .str .str)) 31], 1⟩
theorem okp_laws_toInS (laws_toIn : Nat → (Int × ByteArray × ByteArray) → Option ((Int × ByteArray × ByteArray))) (h73 : CtrOK Try.prog 73 (con_laws_toIn laws_toIn)) : CtrOK Try.prog 26 (con_laws_toInS (laws_toInS_ laws_toIn )) :=
  fun_ok (c := Try.f26.body.getD .skip) (con_laws_toInS (laws_toInS_ laws_toIn )) (gOf [(73, con_laws_toIn laws_toIn)]) [] [⟨3, lp_laws_toInS_3, laws_toInS_L3 laws_toIn ⟩] rfl Try.func26 rfl rfl rfl (gOf_cons h73 (gOf_nil)) (by kernel_rfl) [3] 1 (by kernel_rfl) (by kernel_rfl)
    (fun x => .cons (⟨3, lp_laws_toInS_3, laws_toInS_L3 laws_toIn ⟩ : Lab (OKs [.v false [.own (.pair (.int .i64) (.pair .str .str)) 31]])) rfl rfl (by kernel_rfl) (by kernel_rfl) (.nil _))
theorem ok_laws_toInS : CtrOK Try.prog 26 (con_laws_toInS fun _ => g_laws_toInS) := (okp_laws_toInS _ ok_laws_toIn).nice e_laws_toInS

theorem okp_laws_eqTick : CtrOK Try.prog 75 (con_laws_eqTick (laws_eqTick_ )) :=
  fun_ok0 (c := Try.f75.body.getD .skip) (con_laws_eqTick (laws_eqTick_ )) (gOf []) rfl Try.func75 rfl rfl rfl (gOf_nil) (by kernel_rfl) (by kernel_rfl)
theorem ok_laws_eqTick : CtrOK Try.prog 75 (con_laws_eqTick fun _ => g_laws_eqTick) := (okp_laws_eqTick  ).nice e_laws_eqTick

def lp_laws_eqTickS_4 : LP := ⟨[(0, false, [.sl 0]), (1, false, [.sl 1]), (5, false, [.int .i64])], [.ro (.pair (.int .i64) (.pair (.int .i64) (.int .i64))) 0, .ro (.pair (.int .i64) (.pair (.int .i64) (.int .i64))) 0], 2⟩
theorem okp_laws_eqTickS (laws_eqTick : Nat → (Int × Int × Int) × (Int × Int × Int) → Option (Bool)) (h75 : CtrOK Try.prog 75 (con_laws_eqTick laws_eqTick)) : CtrOK Try.prog 28 (con_laws_eqTickS (laws_eqTickS_ laws_eqTick )) :=
  fun_ok (c := Try.f28.body.getD .skip) (con_laws_eqTickS (laws_eqTickS_ laws_eqTick )) (gOf [(75, con_laws_eqTick laws_eqTick)]) [] [⟨4, lp_laws_eqTickS_4, laws_eqTickS_L4 laws_eqTick ⟩] rfl Try.func28 rfl rfl rfl (gOf_cons h75 (gOf_nil)) (by kernel_rfl) [4] 2 (by kernel_rfl) (by kernel_rfl)
    (fun x => .cons (⟨4, lp_laws_eqTickS_4, laws_eqTickS_L4 laws_eqTick ⟩ : Lab (OKs [.v false [.bool]])) rfl rfl (by kernel_rfl) (by kernel_rfl) (.nil _))
theorem ok_laws_eqTickS : CtrOK Try.prog 28 (con_laws_eqTickS fun _ => g_laws_eqTickS) := (okp_laws_eqTickS _ ok_laws_eqTick).nice e_laws_eqTickS

theorem okp_laws_toTick : CtrOK Try.prog 72 (con_laws_toTick (laws_toTick_ )) :=
  fun_ok0 (c := Try.f72.body.getD .skip) (con_laws_toTick (laws_toTick_ )) (gOf []) rfl Try.func72 rfl rfl rfl (gOf_nil) (by kernel_rfl) (by kernel_rfl)
theorem ok_laws_toTick : CtrOK Try.prog 72 (con_laws_toTick fun _ => g_laws_toTick) := (okp_laws_toTick  ).nice e_laws_toTick

def lp_laws_toTickS_3 : LP := ⟨[(0, false, [.sl 0]), (3, false, [.sl 1]), (4, false, [.int .i64])], [.ro (.pair (.int .i64) (.pair (.int .i64) (.int .i64))) 0, .row (.pair (.int .i64) (.pair (.int .i64) (.int .i64))) 96], 1⟩
theorem okp_laws_toTickS (laws_toTick : Nat → (Int × Int × Int) → Option ((Int × Int × Int))) (h72 : CtrOK Try.prog 72 (con_laws_toTick laws_toTick)) : CtrOK Try.prog 25 (con_laws_toTickS (laws_toTickS_ laws_toTick )) :=
  fun_ok (c := Try.f25.body.getD .skip) (con_laws_toTickS (laws_toTickS_ laws_toTick )) (gOf [(72, con_laws_toTick laws_toTick)]) [] [⟨3, lp_laws_toTickS_3, laws_toTickS_L3 laws_toTick ⟩] rfl Try.func25 rfl rfl rfl (gOf_cons h72 (gOf_nil)) (by kernel_rfl) [3] 1 (by kernel_rfl) (by kernel_rfl)
    (fun x => .cons (⟨3, lp_laws_toTickS_3, laws_toTickS_L3 laws_toTick ⟩ : Lab (OKs [.v false [.own (.pair (.int .i64) (.pair (.int .i64) (.int .i64))) 96]])) rfl rfl (by kernel_rfl) (by kernel_rfl) (.nil _))
theorem ok_laws_toTickS : CtrOK Try.prog 25 (con_laws_toTickS fun _ => g_laws_toTickS) := (okp_laws_toTickS _ ok_laws_toTick).nice e_laws_toTickS

def lp_impl_Latched_6 : LP := ⟨[(1, false, [.sl 1]), (5, false, [.ptr 2 0]), (6, false, [.int .i64]), (18, false, [.sl 0]), (19, false, [.int .i64]), (20, false, [.int .i64])], [.ro (.pair (.int .i64) (.pair (.int .i64) (.int .i64))) 0, .ro (.pair (.int .i64) (.pair .str .str)) 0, .box [.int .i64, .bool, .int .i64, .int .i64, .str] 40], 2⟩
theorem okp_impl_Latched (impl_MenuNew : Nat → Unit → Option ((Int × Bool × Int × Int × ByteArray))) (impl_SenseOk : Nat → Int → Option (Bool)) (impl_isSeen : Nat → ((List (Int × (Int × (Int × Int))))) → Option (Bool)) (impl_ordersOf : Nat → (Int × Bool × Int × Int × ByteArray) × (Int × ByteArray × ByteArray) → Option ((Int × Bool × Int × Int × ByteArray) × ((List (Int × (Int × (Int × Int))))))) (h64 : CtrOK Try.prog 64 (con_impl_MenuNew impl_MenuNew)) (h74 : CtrOK Try.prog 74 (con_impl_SenseOk impl_SenseOk)) (h59 : CtrOK Try.prog 59 (con_impl_isSeen impl_isSeen)) (h55 : CtrOK Try.prog 55 (con_impl_ordersOf impl_ordersOf)) : CtrOK Try.prog 27 (con_impl_Latched (impl_Latched_ impl_MenuNew impl_SenseOk impl_isSeen impl_ordersOf )) :=
  fun_ok (c := Try.f27.body.getD .skip) (con_impl_Latched (impl_Latched_ impl_MenuNew impl_SenseOk impl_isSeen impl_ordersOf )) (gOf [(64, con_impl_MenuNew impl_MenuNew), (74, con_impl_SenseOk impl_SenseOk), (59, con_impl_isSeen impl_isSeen), (55, con_impl_ordersOf impl_ordersOf)]) [] [⟨6, lp_impl_Latched_6, impl_Latched_L6 impl_MenuNew impl_SenseOk impl_isSeen impl_ordersOf ⟩] rfl Try.func27 rfl rfl rfl (gOf_cons h64 (gOf_cons h74 (gOf_cons h59 (gOf_cons h55 (gOf_nil))))) (by kernel_rfl) [6] 2 (by kernel_rfl) (by kernel_rfl)
    (fun x => .cons (⟨6, lp_impl_Latched_6, impl_Latched_L6 impl_MenuNew impl_SenseOk impl_isSeen impl_ordersOf ⟩ : Lab (OKs [.v false [.bool]])) rfl rfl (by kernel_rfl) (by kernel_rfl) (.nil _))
theorem ok_impl_Latched : CtrOK Try.prog 27 (con_impl_Latched fun _ => g_impl_Latched) := (okp_impl_Latched _ _ _ _ ok_impl_MenuNew ok_impl_SenseOk ok_impl_isSeen ok_impl_ordersOf).nice e_impl_Latched

def lp_spec_l13Both_4 : LP := ⟨[(0, false, [.int .i64]), (1, false, [.int .i64]), (5, false, [.int .i64]), (6, false, [.int .i64]), (7, false, [.int .i64])], [], 0⟩
theorem okp_spec_l13Both : CtrOK Try.prog 71 (con_spec_l13Both (spec_l13Both_ )) :=
  fun_ok (c := Try.f71.body.getD .skip) (con_spec_l13Both (spec_l13Both_ )) (gOf []) [] [⟨4, lp_spec_l13Both_4, spec_l13Both_L4 ⟩] rfl Try.func71 rfl rfl rfl (gOf_nil) (by kernel_rfl) [4] 0 (by kernel_rfl) (by kernel_rfl)
    (fun x => .cons (⟨4, lp_spec_l13Both_4, spec_l13Both_L4 ⟩ : Lab (OKs [.v false [.int .i64]])) rfl rfl (by kernel_rfl) (by kernel_rfl) (.nil _))
theorem ok_spec_l13Both : CtrOK Try.prog 71 (con_spec_l13Both fun _ => g_spec_l13Both) := (okp_spec_l13Both  ).nice e_spec_l13Both

theorem okp_spec_SenseOk (spec_l01In : Nat → Int × Int × Int → Option (Bool)) (h119 : CtrOK Try.prog 119 (con_spec_l01In spec_l01In)) : CtrOK Try.prog 70 (con_spec_SenseOk (spec_SenseOk_ spec_l01In )) :=
  fun_ok0 (c := Try.f70.body.getD .skip) (con_spec_SenseOk (spec_SenseOk_ spec_l01In )) (gOf [(119, con_spec_l01In spec_l01In)]) rfl Try.func70 rfl rfl rfl (gOf_cons h119 (gOf_nil)) (by kernel_rfl) (by kernel_rfl)
theorem ok_spec_SenseOk : CtrOK Try.prog 70 (con_spec_SenseOk fun _ => g_spec_SenseOk) := (okp_spec_SenseOk _ ok_spec_l01In).nice e_spec_SenseOk

def lp_spec_ReadVar_6 : LP := ⟨[(0, false, [.str]), (1, false, [.int .i64]), (7, false, [.int .i64]), (8, false, [.int .i64]), (9, false, [.int .i64])], [], 0⟩
theorem okp_spec_ReadVar (spec_l01In : Nat → Int × Int × Int → Option (Bool)) (spec_l01Var : Nat → Int → Option (ByteArray)) (h119 : CtrOK Try.prog 119 (con_spec_l01In spec_l01In)) (h48 : CtrOK Try.prog 48 (con_spec_l01Var spec_l01Var)) : CtrOK Try.prog 190 (con_spec_ReadVar (spec_ReadVar_ spec_l01In spec_l01Var )) :=
  fun_ok (c := Try.f190.body.getD .skip) (con_spec_ReadVar (spec_ReadVar_ spec_l01In spec_l01Var )) (gOf [(119, con_spec_l01In spec_l01In), (48, con_spec_l01Var spec_l01Var)]) [] [⟨6, lp_spec_ReadVar_6, spec_ReadVar_L6 spec_l01In spec_l01Var ⟩] rfl Try.func190 rfl rfl rfl (gOf_cons h119 (gOf_cons h48 (gOf_nil))) (by kernel_rfl) [6] 0 (by kernel_rfl) (by kernel_rfl)
    (fun x => .cons (⟨6, lp_spec_ReadVar_6, spec_ReadVar_L6 spec_l01In spec_l01Var ⟩ : Lab (OKs [.v false [.int .i64], .v false [.int .i64], .v false [.bool]])) rfl rfl (by kernel_rfl) (by kernel_rfl) (.nil _))
theorem ok_spec_ReadVar : CtrOK Try.prog 190 (con_spec_ReadVar fun _ => g_spec_ReadVar) := (okp_spec_ReadVar _ _ ok_spec_l01In ok_spec_l01Var).nice e_spec_ReadVar

theorem okp_spec_l11Var (spec_ReadVar : Nat → ByteArray × Int → Option (Int × Int × Bool)) (h190 : CtrOK Try.prog 190 (con_spec_ReadVar spec_ReadVar)) : CtrOK Try.prog 135 (con_spec_l11Var (spec_l11Var_ spec_ReadVar )) :=
  fun_ok0 (c := Try.f135.body.getD .skip) (con_spec_l11Var (spec_l11Var_ spec_ReadVar )) (gOf [(190, con_spec_ReadVar spec_ReadVar)]) rfl Try.func135 rfl rfl rfl (gOf_cons h190 (gOf_nil)) (by kernel_rfl) (by kernel_rfl)
theorem ok_spec_l11Var : CtrOK Try.prog 135 (con_spec_l11Var fun _ => g_spec_l11Var) := (okp_spec_l11Var _ ok_spec_ReadVar).nice e_spec_l11Var

theorem okp_spec_Unsealed (spec_SumOf : Nat → ByteArray → Option (Int)) (spec_l02Four : Nat → Int → Option (ByteArray)) (h121 : CtrOK Try.prog 121 (con_spec_SumOf spec_SumOf)) (h120 : CtrOK Try.prog 120 (con_spec_l02Four spec_l02Four)) : CtrOK Try.prog 134 (con_spec_Unsealed (spec_Unsealed_ spec_SumOf spec_l02Four )) :=
  fun_ok0 (c := Try.f134.body.getD .skip) (con_spec_Unsealed (spec_Unsealed_ spec_SumOf spec_l02Four )) (gOf [(121, con_spec_SumOf spec_SumOf), (120, con_spec_l02Four spec_l02Four)]) rfl Try.func134 rfl rfl rfl (gOf_cons h121 (gOf_cons h120 (gOf_nil))) (by kernel_rfl) (by kernel_rfl)
theorem ok_spec_Unsealed : CtrOK Try.prog 134 (con_spec_Unsealed fun _ => g_spec_Unsealed) := (okp_spec_Unsealed _ _ ok_spec_SumOf ok_spec_l02Four).nice e_spec_Unsealed

theorem okp_spec_ReadOrder (spec_OrderText : Nat → (Int × Int × Int × Int) → Option (ByteArray × Bool)) (spec_Unsealed : Nat → ByteArray → Option (ByteArray × Bool)) (spec_l11Var : Nat → (ByteArray × Int × Bool) → Option (Int × (ByteArray × Int × Bool))) (h12 : CtrOK Try.prog 12 (con_spec_OrderText spec_OrderText)) (h134 : CtrOK Try.prog 134 (con_spec_Unsealed spec_Unsealed)) (h135 : CtrOK Try.prog 135 (con_spec_l11Var spec_l11Var)) : CtrOK Try.prog 69 (con_spec_ReadOrder (spec_ReadOrder_ spec_OrderText spec_Unsealed spec_l11Var )) :=
  fun_ok0 (c := Try.f69.body.getD .skip) (con_spec_ReadOrder (spec_ReadOrder_ spec_OrderText spec_Unsealed spec_l11Var )) (gOf [(12, con_spec_OrderText spec_OrderText), (134, con_spec_Unsealed spec_Unsealed), (135, con_spec_l11Var spec_l11Var)]) rfl Try.func69 rfl rfl rfl (gOf_cons h12 (gOf_cons h134 (gOf_cons h135 (gOf_nil)))) (by kernel_rfl) (by kernel_rfl)
theorem ok_spec_ReadOrder : CtrOK Try.prog 69 (con_spec_ReadOrder fun _ => g_spec_ReadOrder) := (okp_spec_ReadOrder _ _ _ ok_spec_OrderText ok_spec_Unsealed ok_spec_l11Var).nice e_spec_ReadOrder

theorem okp_spec_MenuNew : CtrOK Try.prog 67 (con_spec_MenuNew (spec_MenuNew_ )) :=
  fun_ok0 (c := Try.f67.body.getD .skip) (con_spec_MenuNew (spec_MenuNew_ )) (gOf []) rfl Try.func67 rfl rfl rfl (gOf_nil) (by kernel_rfl) (by kernel_rfl)
theorem ok_spec_MenuNew : CtrOK Try.prog 67 (con_spec_MenuNew fun _ => g_spec_MenuNew) := (okp_spec_MenuNew  ).nice e_spec_MenuNew

def lp_spec_l17Number_3 : LP := ⟨[(0, false, [.str]), (3, false, [.int .i64]), (4, false, [.int .i64])], [], 0⟩
theorem okp_spec_l17Number : CtrOK Try.prog 189 (con_spec_l17Number (spec_l17Number_ )) :=
  fun_ok (c := Try.f189.body.getD .skip) (con_spec_l17Number (spec_l17Number_ )) (gOf []) [] [⟨3, lp_spec_l17Number_3, spec_l17Number_L3 ⟩] rfl Try.func189 rfl rfl rfl (gOf_nil) (by kernel_rfl) [3] 0 (by kernel_rfl) (by kernel_rfl)
    (fun x => .cons (⟨3, lp_spec_l17Number_3, spec_l17Number_L3 ⟩ : Lab (OKs [.v false [.int .i64]])) rfl rfl (by kernel_rfl) (by kernel_rfl) (.nil _))
theorem ok_spec_l17Number : CtrOK Try.prog 189 (con_spec_l17Number fun _ => g_spec_l17Number) := (okp_spec_l17Number  ).nice e_spec_l17Number

theorem okp_spec_l17Top : CtrOK Try.prog 188 (con_spec_l17Top (spec_l17Top_ )) :=
  fun_ok0 (c := Try.f188.body.getD .skip) (con_spec_l17Top (spec_l17Top_ )) (gOf []) rfl Try.func188 rfl rfl rfl (gOf_nil) (by kernel_rfl) (by kernel_rfl)
theorem ok_spec_l17Top : CtrOK Try.prog 188 (con_spec_l17Top fun _ => g_spec_l17Top) := (okp_spec_l17Top  ).nice e_spec_l17Top

def lp_spec_MenuOk_4 : LP := ⟨[(1, false, [.ptr 0 0]), (3, false, [.int .i64])], [.box [.int .i64, .bool, .int .i64, .int .i64, .str] 40], 0⟩
theorem okp_spec_MenuOk (spec_l01In : Nat → Int × Int × Int → Option (Bool)) (h119 : CtrOK Try.prog 119 (con_spec_l01In spec_l01In)) : CtrOK Try.prog 180 (con_spec_MenuOk (spec_MenuOk_ spec_l01In )) :=
  fun_ok (c := Try.f180.body.getD .skip) (con_spec_MenuOk (spec_MenuOk_ spec_l01In )) (gOf [(119, con_spec_l01In spec_l01In)]) [] [⟨4, lp_spec_MenuOk_4, spec_MenuOk_L4 spec_l01In ⟩] rfl Try.func180 rfl rfl rfl (gOf_cons h119 (gOf_nil)) (by kernel_rfl) [4] 0 (by kernel_rfl) (by kernel_rfl)
    (fun x => .cons (⟨4, lp_spec_MenuOk_4, spec_MenuOk_L4 spec_l01In ⟩ : Lab (OKs [.v false [.bool]])) rfl rfl (by kernel_rfl) (by kernel_rfl) (.nil _))
theorem ok_spec_MenuOk : CtrOK Try.prog 180 (con_spec_MenuOk fun _ => g_spec_MenuOk) := (okp_spec_MenuOk _ ok_spec_l01In).nice e_spec_MenuOk

theorem okp_spec_Press (spec_MenuNew : Nat → Unit → Option ((Int × Bool × Int × Int × ByteArray))) (spec_MenuOk : Nat → (Int × Bool × Int × Int × ByteArray) → Option (Bool)) (spec_OrderOk : Nat → (Int × Int × Int × Int) → Option (Bool)) (spec_l17Number : Nat → ByteArray → Option (Int)) (spec_l17Top : Nat → (Int × Bool × Int × Int × ByteArray) × Int → Option ((Int × Bool × Int × Int × ByteArray) × (Int × Int × Int × Int) × Bool)) (h67 : CtrOK Try.prog 67 (con_spec_MenuNew spec_MenuNew)) (h180 : CtrOK Try.prog 180 (con_spec_MenuOk spec_MenuOk)) (h46 : CtrOK Try.prog 46 (con_spec_OrderOk spec_OrderOk)) (h189 : CtrOK Try.prog 189 (con_spec_l17Number spec_l17Number)) (h188 : CtrOK Try.prog 188 (con_spec_l17Top spec_l17Top)) : CtrOK Try.prog 133 (con_spec_Press (spec_Press_ spec_MenuNew spec_MenuOk spec_OrderOk spec_l17Number spec_l17Top )) :=
  fun_ok0 (c := Try.f133.body.getD .skip) (con_spec_Press (spec_Press_ spec_MenuNew spec_MenuOk spec_OrderOk spec_l17Number spec_l17Top )) (gOf [(67, con_spec_MenuNew spec_MenuNew), (180, con_spec_MenuOk spec_MenuOk), (46, con_spec_OrderOk spec_OrderOk), (189, con_spec_l17Number spec_l17Number), (188, con_spec_l17Top spec_l17Top)]) rfl Try.func133 rfl rfl rfl (gOf_cons h67 (gOf_cons h180 (gOf_cons h46 (gOf_cons h189 (gOf_cons h188 (gOf_nil)))))) (by kernel_rfl) (by kernel_rfl)
theorem ok_spec_Press : CtrOK Try.prog 133 (con_spec_Press fun _ => g_spec_Press) := (okp_spec_Press _ _ _ _ _ ok_spec_MenuNew ok_spec_MenuOk ok_spec_OrderOk ok_spec_l17Number ok_spec_l17Top).nice e_spec_Press

def lp_spec_PressAll_3 : LP := ⟨[(1, false, [.str]), (2, false, [.ptr 0 0]), (4, false, [.ptr 1 0]), (6, false, [.sl 2]), (7, false, [.int .i64])], [.box [.int .i64, .bool, .int .i64, .int .i64, .str] 40, .box [.int .i64, .bool, .int .i64, .int .i64, .str] 40, .row (.pair (.int .i64) (.pair (.int .i64) (.pair (.int .i64) (.int .i64)))) 27], 0⟩
theorem okp_spec_PressAll (spec_Press : Nat → (Int × Bool × Int × Int × ByteArray) × Int → Option ((Int × Bool × Int × Int × ByteArray) × (Int × Int × Int × Int) × Bool)) (h133 : CtrOK Try.prog 133 (con_spec_Press spec_Press)) : CtrOK Try.prog 68 (con_spec_PressAll (spec_PressAll_ spec_Press )) :=
  fun_ok (c := Try.f68.body.getD .skip) (con_spec_PressAll (spec_PressAll_ spec_Press )) (gOf [(133, con_spec_Press spec_Press)]) [] [⟨3, lp_spec_PressAll_3, spec_PressAll_L3 spec_Press ⟩] rfl Try.func68 rfl rfl rfl (gOf_cons h133 (gOf_nil)) (by kernel_rfl) [3] 0 (by kernel_rfl) (by kernel_rfl)
    (fun x => .cons (⟨3, lp_spec_PressAll_3, spec_PressAll_L3 spec_Press ⟩ : Lab (OKs [.v true [.int .i64, .bool, .int .i64, .int .i64, .str], .v false [.own (.pair (.int .i64) (.pair (.int .i64) (.pair (.int .i64) (.int .i64)))) 27]])) rfl rfl (by kernel_rfl) (by kernel_rfl) (.nil _))
theorem ok_spec_PressAll : CtrOK Try.prog 68 (con_spec_PressAll fun _ => g_spec_PressAll) := (okp_spec_PressAll _ ok_spec_Press).nice e_spec_PressAll

def lp_spec_Latched_6 : LP := ⟨[(0, false, [.sl 0]), (1, false, [.sl 1]), (5, false, [.ptr 2 0]), (6, false, [.int .i64]), (7, false, [.int .i64])], [.ro (.pair (.int .i64) (.pair (.int .i64) (.int .i64))) 0, .ro (.pair (.int .i64) (.pair .str .str)) 0, .box [.int .i64, .bool, .int .i64, .int .i64, .str] 40], 2⟩
def lp_spec_Latched_15 : LP := ⟨[(0, false, [.sl 0]), (1, false, [.sl 1]), (5, false, [.ptr 2 0]), (6, false, [.int .i64]), (7, false, [.int .i64]), (9, false, [.sl 3]), (12, false, [.bool]), (13, false, [.int .i64])], [.ro (.pair (.int .i64) (.pair (.int .i64) (.int .i64))) 0, .ro (.pair (.int .i64) (.pair .str .str)) 0, .box [.int .i64, .bool, .int .i64, .int .i64, .str] 40, .row (.pair (.int .i64) (.pair (.int .i64) (.pair (.int .i64) (.int .i64)))) 27], 2⟩
theorem okp_spec_Latched (spec_MenuNew : Nat → Unit → Option ((Int × Bool × Int × Int × ByteArray))) (spec_PressAll : Nat → (Int × Bool × Int × Int × ByteArray) × ByteArray → Option ((Int × Bool × Int × Int × ByteArray) × ((List (Int × (Int × (Int × Int))))))) (spec_ReadOrder : Nat → ByteArray → Option ((Int × Int × Int × Int) × Bool)) (spec_SenseOk : Nat → Int → Option (Bool)) (spec_l13Both : Nat → Int × Int → Option (Int)) (h67 : CtrOK Try.prog 67 (con_spec_MenuNew spec_MenuNew)) (h68 : CtrOK Try.prog 68 (con_spec_PressAll spec_PressAll)) (h69 : CtrOK Try.prog 69 (con_spec_ReadOrder spec_ReadOrder)) (h70 : CtrOK Try.prog 70 (con_spec_SenseOk spec_SenseOk)) (h71 : CtrOK Try.prog 71 (con_spec_l13Both spec_l13Both)) : CtrOK Try.prog 24 (con_spec_Latched (spec_Latched_ spec_MenuNew spec_PressAll spec_ReadOrder spec_SenseOk spec_l13Both )) :=
  fun_ok (c := Try.f24.body.getD .skip) (con_spec_Latched (spec_Latched_ spec_MenuNew spec_PressAll spec_ReadOrder spec_SenseOk spec_l13Both )) (gOf [(67, con_spec_MenuNew spec_MenuNew), (68, con_spec_PressAll spec_PressAll), (69, con_spec_ReadOrder spec_ReadOrder), (70, con_spec_SenseOk spec_SenseOk), (71, con_spec_l13Both spec_l13Both)]) [] [⟨6, lp_spec_Latched_6, spec_Latched_L6 spec_MenuNew spec_PressAll spec_ReadOrder spec_SenseOk spec_l13Both ⟩, ⟨15, lp_spec_Latched_15, spec_Latched_L15 spec_MenuNew spec_PressAll spec_ReadOrder spec_SenseOk spec_l13Both ⟩] rfl Try.func24 rfl rfl rfl (gOf_cons h67 (gOf_cons h68 (gOf_cons h69 (gOf_cons h70 (gOf_cons h71 (gOf_nil)))))) (by kernel_rfl) [6, 15] 2 (by kernel_rfl) (by kernel_rfl)
    (fun x => .cons (⟨6, lp_spec_Latched_6, spec_Latched_L6 spec_MenuNew spec_PressAll spec_ReadOrder spec_SenseOk spec_l13Both ⟩ : Lab (OKs [.v false [.bool]])) rfl rfl (by kernel_rfl) (by kernel_rfl) (.cons (⟨15, lp_spec_Latched_15, spec_Latched_L15 spec_MenuNew spec_PressAll spec_ReadOrder spec_SenseOk spec_l13Both ⟩ : Lab (OKs [.v false [.bool]])) rfl rfl (by kernel_rfl) (by kernel_rfl) (.nil _)))
theorem ok_spec_Latched : CtrOK Try.prog 24 (con_spec_Latched fun _ => g_spec_Latched) := (okp_spec_Latched _ _ _ _ _ ok_spec_MenuNew ok_spec_PressAll ok_spec_ReadOrder ok_spec_SenseOk ok_spec_l13Both).nice e_spec_Latched

theorem okp_laws_szIn : CtrOK Try.prog 66 (con_laws_szIn (laws_szIn_ )) :=
  fun_ok0 (c := Try.f66.body.getD .skip) (con_laws_szIn (laws_szIn_ )) (gOf []) rfl Try.func66 rfl rfl rfl (gOf_nil) (by kernel_rfl) (by kernel_rfl)
theorem ok_laws_szIn : CtrOK Try.prog 66 (con_laws_szIn fun _ => g_laws_szIn) := (okp_laws_szIn  ).nice e_laws_szIn

def lp_laws_szInS_5 : LP := ⟨[(0, false, [.sl 0]), (1, false, [.int .i64]), (5, false, [.int .i64])], [.ro (.pair (.int .i64) (.pair .str .str)) 0], 1⟩
theorem okp_laws_szInS (laws_szIn : Nat → (Int × ByteArray × ByteArray) × Int → Option (Int)) (h66 : CtrOK Try.prog 66 (con_laws_szIn laws_szIn)) : CtrOK Try.prog 23 (con_laws_szInS (laws_szInS_ laws_szIn )) :=
  fun_ok (c := Try.f23.body.getD .skip) (con_laws_szInS (laws_szInS_ laws_szIn )) (gOf [(66, con_laws_szIn laws_szIn)]) [] [⟨5, lp_laws_szInS_5, laws_szInS_L5 laws_szIn ⟩] rfl Try.func23 rfl rfl rfl (gOf_cons h66 (gOf_nil)) (by kernel_rfl) [5] 1 (by kernel_rfl) (by kernel_rfl)
    (fun x => .cons (⟨5, lp_laws_szInS_5, laws_szInS_L5 laws_szIn ⟩ : Lab (OKs [.v false [.int .i64]])) rfl rfl (by kernel_rfl) (by kernel_rfl) (.nil _))
theorem ok_laws_szInS : CtrOK Try.prog 23 (con_laws_szInS fun _ => g_laws_szInS) := (okp_laws_szInS _ ok_laws_szIn).nice e_laws_szInS

theorem okp_laws_szTickS : CtrOK Try.prog 22 (con_laws_szTickS (laws_szTickS_ )) :=
  fun_ok0 (c := Try.f22.body.getD .skip) (con_laws_szTickS (laws_szTickS_ )) (gOf []) rfl Try.func22 rfl rfl rfl (gOf_nil) (by kernel_rfl) (by kernel_rfl)
theorem ok_laws_szTickS : CtrOK Try.prog 22 (con_laws_szTickS fun _ => g_laws_szTickS) := (okp_laws_szTickS  ).nice e_laws_szTickS

theorem okp_laws_FnExactLatched (impl_Latched : Nat → ((List (Int × (Int × Int)))) × ((List (Int × (ByteArray × ByteArray)))) → Option (Bool)) (laws_eqInS : Nat → ((List (Int × (ByteArray × ByteArray)))) × ((List (Int × (ByteArray × ByteArray)))) → Option (Bool)) (laws_eqTickS : Nat → ((List (Int × (Int × Int)))) × ((List (Int × (Int × Int)))) → Option (Bool)) (laws_szInS : Nat → ((List (Int × (ByteArray × ByteArray)))) × Int → Option (Int)) (laws_szTickS : Nat → ((List (Int × (Int × Int)))) × Int → Option (Int)) (laws_toInS : Nat → ((List (Int × (ByteArray × ByteArray)))) → Option (((List (Int × (ByteArray × ByteArray)))))) (laws_toTickS : Nat → ((List (Int × (Int × Int)))) → Option (((List (Int × (Int × Int)))))) (spec_Latched : Nat → ((List (Int × (Int × Int)))) × ((List (Int × (ByteArray × ByteArray)))) → Option (Bool)) (h27 : CtrOK Try.prog 27 (con_impl_Latched impl_Latched)) (h29 : CtrOK Try.prog 29 (con_laws_eqInS laws_eqInS)) (h28 : CtrOK Try.prog 28 (con_laws_eqTickS laws_eqTickS)) (h23 : CtrOK Try.prog 23 (con_laws_szInS laws_szInS)) (h22 : CtrOK Try.prog 22 (con_laws_szTickS laws_szTickS)) (h26 : CtrOK Try.prog 26 (con_laws_toInS laws_toInS)) (h25 : CtrOK Try.prog 25 (con_laws_toTickS laws_toTickS)) (h24 : CtrOK Try.prog 24 (con_spec_Latched spec_Latched)) : CtrOK Try.prog 5 (con_laws_FnExactLatched (laws_FnExactLatched_ impl_Latched laws_eqInS laws_eqTickS laws_szInS laws_szTickS laws_toInS laws_toTickS spec_Latched )) :=
  fun_ok0 (c := Try.f5.body.getD .skip) (con_laws_FnExactLatched (laws_FnExactLatched_ impl_Latched laws_eqInS laws_eqTickS laws_szInS laws_szTickS laws_toInS laws_toTickS spec_Latched )) (gOf [(27, con_impl_Latched impl_Latched), (29, con_laws_eqInS laws_eqInS), (28, con_laws_eqTickS laws_eqTickS), (23, con_laws_szInS laws_szInS), (22, con_laws_szTickS laws_szTickS), (26, con_laws_toInS laws_toInS), (25, con_laws_toTickS laws_toTickS), (24, con_spec_Latched spec_Latched)]) rfl Try.func5 rfl rfl rfl (gOf_cons h27 (gOf_cons h29 (gOf_cons h28 (gOf_cons h23 (gOf_cons h22 (gOf_cons h26 (gOf_cons h25 (gOf_cons h24 (gOf_nil))))))))) (by kernel_rfl) (by kernel_rfl)
theorem ok_laws_FnExactLatched : CtrOK Try.prog 5 (con_laws_FnExactLatched fun _ => g_laws_FnExactLatched) := (okp_laws_FnExactLatched _ _ _ _ _ _ _ _ ok_impl_Latched ok_laws_eqInS ok_laws_eqTickS ok_laws_szInS ok_laws_szTickS ok_laws_toInS ok_laws_toTickS ok_spec_Latched).nice e_laws_FnExactLatched

end Go.Sx.T
