/- Functions of the program as functions of Lean, and that the program keeps to them. -/
import Derived.Test.YtkcfdkfdmglamaaDoorFnExactShowDeviceA0
import Derived.Test.YtkcfdkfdmglamaaDoorProg
import Derived.Test.YtkcfdkfdmglamaaDoorLib
set_option maxRecDepth 100000
set_option linter.unusedVariables false
set_option linter.unusedSimpArgs false
namespace Go.Proofs
end Go.Proofs
namespace Go.Sx.T
open Go Go.Sx Go.Proofs Go.RowKit
theorem okp_strconv_Itoa : True := trivial
theorem ok_strconv_Itoa : CtrOK Tryd.prog 41 (con_strconv_Itoa fun _ => g_strconv_Itoa) := Go.Sx.ok_itoa
theorem okp_strings_Join : True := trivial
theorem ok_strings_Join : CtrOK Tryd.prog 43 (con_strings_Join fun _ => g_strings_Join) := Go.Sx.ok_join
theorem okp_laws_eqTick : CtrOK Tryd.prog 46 (con_laws_eqTick (laws_eqTick_ )) :=
  fun_ok0 (c := Tryd.f46.body.getD .skip) (con_laws_eqTick (laws_eqTick_ )) (gOf []) rfl Tryd.func46 rfl rfl rfl (gOf_nil) (by kernel_rfl) (by kernel_rfl)
theorem ok_laws_eqTick : CtrOK Tryd.prog 46 (con_laws_eqTick fun _ => g_laws_eqTick) := (okp_laws_eqTick  ).nice e_laws_eqTick

def lp_laws_eqTickS_4 : LP := ⟨[(0, false, [.sl 0]), (1, false, [.sl 1]), (5, false, [.int .i64])], [.ro (.pair (.int .i64) (.pair (.int .i64) (.int .i64))) 0, .ro (.pair (.int .i64) (.pair (.int .i64) (.int .i64))) 0], 2⟩
theorem okp_laws_eqTickS (laws_eqTick : Nat → (Int × Int × Int) × (Int × Int × Int) → Option (Bool)) (h46 : CtrOK Tryd.prog 46 (con_laws_eqTick laws_eqTick)) : CtrOK Tryd.prog 25 (con_laws_eqTickS (laws_eqTickS_ laws_eqTick )) :=
  fun_ok (c := Tryd.f25.body.getD .skip) (con_laws_eqTickS (laws_eqTickS_ laws_eqTick )) (gOf [(46, con_laws_eqTick laws_eqTick)]) [] [⟨4, lp_laws_eqTickS_4, laws_eqTickS_L4 laws_eqTick ⟩] rfl Tryd.func25 rfl rfl rfl (gOf_cons h46 (gOf_nil)) (by kernel_rfl) [4] 2 (by kernel_rfl) (by kernel_rfl)
    (fun x => .cons (⟨4, lp_laws_eqTickS_4, laws_eqTickS_L4 laws_eqTick ⟩ : Lab (OKs [.v false [.bool]])) rfl rfl (by kernel_rfl) (by kernel_rfl) (.nil _))
theorem ok_laws_eqTickS : CtrOK Tryd.prog 25 (con_laws_eqTickS fun _ => g_laws_eqTickS) := (okp_laws_eqTickS _ ok_laws_eqTick).nice e_laws_eqTickS

theorem okp_laws_eqMenu : CtrOK Tryd.prog 24 (con_laws_eqMenu (laws_eqMenu_ )) :=
  fun_ok0 (c := Tryd.f24.body.getD .skip) (con_laws_eqMenu (laws_eqMenu_ )) (gOf []) rfl Tryd.func24 rfl rfl rfl (gOf_nil) (by kernel_rfl) (by kernel_rfl)
theorem ok_laws_eqMenu : CtrOK Tryd.prog 24 (con_laws_eqMenu fun _ => g_laws_eqMenu) := (okp_laws_eqMenu  ).nice e_laws_eqMenu

def lp_laws_eqIntS_4 : LP := ⟨[(0, false, [.sl 0]), (1, false, [.sl 1]), (5, false, [.int .i64])], [.ro (.int .i64) 0, .ro (.int .i64) 0], 2⟩
theorem okp_laws_eqIntS : CtrOK Tryd.prog 45 (con_laws_eqIntS (laws_eqIntS_ )) :=
  fun_ok (c := Tryd.f45.body.getD .skip) (con_laws_eqIntS (laws_eqIntS_ )) (gOf []) [] [⟨4, lp_laws_eqIntS_4, laws_eqIntS_L4 ⟩] rfl Tryd.func45 rfl rfl rfl (gOf_nil) (by kernel_rfl) [4] 2 (by kernel_rfl) (by kernel_rfl)
    (fun x => .cons (⟨4, lp_laws_eqIntS_4, laws_eqIntS_L4 ⟩ : Lab (OKs [.v false [.bool]])) rfl rfl (by kernel_rfl) (by kernel_rfl) (.nil _))
theorem ok_laws_eqIntS : CtrOK Tryd.prog 45 (con_laws_eqIntS fun _ => g_laws_eqIntS) := (okp_laws_eqIntS  ).nice e_laws_eqIntS

theorem okp_laws_eqGuard (laws_eqIntS : Nat → List Int × List Int → Option (Bool)) (h45 : CtrOK Tryd.prog 45 (con_laws_eqIntS laws_eqIntS)) : CtrOK Tryd.prog 23 (con_laws_eqGuard (laws_eqGuard_ laws_eqIntS )) :=
  fun_ok0 (c := Tryd.f23.body.getD .skip) (con_laws_eqGuard (laws_eqGuard_ laws_eqIntS )) (gOf [(45, con_laws_eqIntS laws_eqIntS)]) rfl Tryd.func23 rfl rfl rfl (gOf_cons h45 (gOf_nil)) (by kernel_rfl) (by kernel_rfl)
theorem ok_laws_eqGuard : CtrOK Tryd.prog 23 (con_laws_eqGuard fun _ => g_laws_eqGuard) := (okp_laws_eqGuard _ ok_laws_eqIntS).nice e_laws_eqGuard

theorem okp_laws_eqRate : CtrOK Tryd.prog 44 (con_laws_eqRate (laws_eqRate_ )) :=
  fun_ok0 (c := Tryd.f44.body.getD .skip) (con_laws_eqRate (laws_eqRate_ )) (gOf []) rfl Tryd.func44 rfl rfl rfl (gOf_nil) (by kernel_rfl) (by kernel_rfl)
theorem ok_laws_eqRate : CtrOK Tryd.prog 44 (con_laws_eqRate fun _ => g_laws_eqRate) := (okp_laws_eqRate  ).nice e_laws_eqRate

theorem okp_laws_eqPump (laws_eqRate : Nat → (Int × Int × Int) × (Int × Int × Int) → Option (Bool)) (h44 : CtrOK Tryd.prog 44 (con_laws_eqRate laws_eqRate)) : CtrOK Tryd.prog 22 (con_laws_eqPump (laws_eqPump_ laws_eqRate )) :=
  fun_ok0 (c := Tryd.f22.body.getD .skip) (con_laws_eqPump (laws_eqPump_ laws_eqRate )) (gOf [(44, con_laws_eqRate laws_eqRate)]) rfl Tryd.func22 rfl rfl rfl (gOf_cons h44 (gOf_nil)) (by kernel_rfl) (by kernel_rfl)
theorem ok_laws_eqPump : CtrOK Tryd.prog 22 (con_laws_eqPump fun _ => g_laws_eqPump) := (okp_laws_eqPump _ ok_laws_eqRate).nice e_laws_eqPump

theorem okp_laws_eqDevice (laws_eqGuard : Nat → (List Int × Int) × (List Int × Int) → Option (Bool)) (laws_eqMenu : Nat → (Int × Bool × Int × Int × ByteArray) × (Int × Bool × Int × Int × ByteArray) → Option (Bool)) (laws_eqPump : Nat → (Int × Int × Int × Int × Int × Int × Int × Int) × (Int × Int × Int × Int × Int × Int × Int × Int) → Option (Bool)) (laws_eqTickS : Nat → ((List (Int × (Int × Int)))) × ((List (Int × (Int × Int)))) → Option (Bool)) (h23 : CtrOK Tryd.prog 23 (con_laws_eqGuard laws_eqGuard)) (h24 : CtrOK Tryd.prog 24 (con_laws_eqMenu laws_eqMenu)) (h22 : CtrOK Tryd.prog 22 (con_laws_eqPump laws_eqPump)) (h25 : CtrOK Tryd.prog 25 (con_laws_eqTickS laws_eqTickS)) : CtrOK Tryd.prog 8 (con_laws_eqDevice (laws_eqDevice_ laws_eqGuard laws_eqMenu laws_eqPump laws_eqTickS )) :=
  fun_ok0 (c := Tryd.f8.body.getD .skip) (con_laws_eqDevice (laws_eqDevice_ laws_eqGuard laws_eqMenu laws_eqPump laws_eqTickS )) (gOf [(23, con_laws_eqGuard laws_eqGuard), (24, con_laws_eqMenu laws_eqMenu), (22, con_laws_eqPump laws_eqPump), (25, con_laws_eqTickS laws_eqTickS)]) rfl Tryd.func8 rfl rfl rfl (gOf_cons h23 (gOf_cons h24 (gOf_cons h22 (gOf_cons h25 (gOf_nil))))) (by kernel_rfl) (by kernel_rfl)
theorem ok_laws_eqDevice : CtrOK Tryd.prog 8 (con_laws_eqDevice fun _ => g_laws_eqDevice) := (okp_laws_eqDevice _ _ _ _ ok_laws_eqGuard ok_laws_eqMenu ok_laws_eqPump ok_laws_eqTickS).nice e_laws_eqDevice

theorem okp_laws_toTick : CtrOK Tryd.prog 36 (con_laws_toTick (laws_toTick_ )) :=
  fun_ok0 (c := Tryd.f36.body.getD .skip) (con_laws_toTick (laws_toTick_ )) (gOf []) rfl Tryd.func36 rfl rfl rfl (gOf_nil) (by kernel_rfl) (by kernel_rfl)
theorem ok_laws_toTick : CtrOK Tryd.prog 36 (con_laws_toTick fun _ => g_laws_toTick) := (okp_laws_toTick  ).nice e_laws_toTick

def lp_laws_toTickS_3 : LP := ⟨[(0, false, [.sl 0]), (3, false, [.sl 1]), (4, false, [.int .i64])], [.ro (.pair (.int .i64) (.pair (.int .i64) (.int .i64))) 0, .row (.pair (.int .i64) (.pair (.int .i64) (.int .i64))) 73], 1⟩
theorem okp_laws_toTickS (laws_toTick : Nat → (Int × Int × Int) → Option ((Int × Int × Int))) (h36 : CtrOK Tryd.prog 36 (con_laws_toTick laws_toTick)) : CtrOK Tryd.prog 18 (con_laws_toTickS (laws_toTickS_ laws_toTick )) :=
  fun_ok (c := Tryd.f18.body.getD .skip) (con_laws_toTickS (laws_toTickS_ laws_toTick )) (gOf [(36, con_laws_toTick laws_toTick)]) [] [⟨3, lp_laws_toTickS_3, laws_toTickS_L3 laws_toTick ⟩] rfl Tryd.func18 rfl rfl rfl (gOf_cons h36 (gOf_nil)) (by kernel_rfl) [3] 1 (by kernel_rfl) (by kernel_rfl)
    (fun x => .cons (⟨3, lp_laws_toTickS_3, laws_toTickS_L3 laws_toTick ⟩ : Lab (OKs [.v false [.own (.pair (.int .i64) (.pair (.int .i64) (.int .i64))) 73]])) rfl rfl (by kernel_rfl) (by kernel_rfl) (.nil _))
theorem ok_laws_toTickS : CtrOK Tryd.prog 18 (con_laws_toTickS fun _ => g_laws_toTickS) := (okp_laws_toTickS _ ok_laws_toTick).nice e_laws_toTickS

theorem okp_laws_toMenu : CtrOK Tryd.prog 17 (con_laws_toMenu (laws_toMenu_ )) :=
  fun_ok0 (c := Tryd.f17.body.getD .skip) (con_laws_toMenu (laws_toMenu_ )) (gOf []) rfl Tryd.func17 rfl rfl rfl (gOf_nil) (by kernel_rfl) (by kernel_rfl)
theorem ok_laws_toMenu : CtrOK Tryd.prog 17 (con_laws_toMenu fun _ => g_laws_toMenu) := (okp_laws_toMenu  ).nice e_laws_toMenu

def lp_laws_toIntS_3 : LP := ⟨[(0, false, [.sl 0]), (3, false, [.sl 1]), (4, false, [.int .i64])], [.ro (.int .i64) 0, .row (.int .i64) 3], 1⟩
theorem okp_laws_toIntS : CtrOK Tryd.prog 35 (con_laws_toIntS (laws_toIntS_ )) :=
  fun_ok (c := Tryd.f35.body.getD .skip) (con_laws_toIntS (laws_toIntS_ )) (gOf []) [] [⟨3, lp_laws_toIntS_3, laws_toIntS_L3 ⟩] rfl Tryd.func35 rfl rfl rfl (gOf_nil) (by kernel_rfl) [3] 1 (by kernel_rfl) (by kernel_rfl)
    (fun x => .cons (⟨3, lp_laws_toIntS_3, laws_toIntS_L3 ⟩ : Lab (OKs [.v false [.own (.int .i64) 3]])) rfl rfl (by kernel_rfl) (by kernel_rfl) (.nil _))
theorem ok_laws_toIntS : CtrOK Tryd.prog 35 (con_laws_toIntS fun _ => g_laws_toIntS) := (okp_laws_toIntS  ).nice e_laws_toIntS

theorem okp_laws_toGuard (laws_toIntS : Nat → List Int → Option (List Int)) (h35 : CtrOK Tryd.prog 35 (con_laws_toIntS laws_toIntS)) : CtrOK Tryd.prog 16 (con_laws_toGuard (laws_toGuard_ laws_toIntS )) :=
  fun_ok0 (c := Tryd.f16.body.getD .skip) (con_laws_toGuard (laws_toGuard_ laws_toIntS )) (gOf [(35, con_laws_toIntS laws_toIntS)]) rfl Tryd.func16 rfl rfl rfl (gOf_cons h35 (gOf_nil)) (by kernel_rfl) (by kernel_rfl)
theorem ok_laws_toGuard : CtrOK Tryd.prog 16 (con_laws_toGuard fun _ => g_laws_toGuard) := (okp_laws_toGuard _ ok_laws_toIntS).nice e_laws_toGuard

theorem okp_laws_toRate : CtrOK Tryd.prog 34 (con_laws_toRate (laws_toRate_ )) :=
  fun_ok0 (c := Tryd.f34.body.getD .skip) (con_laws_toRate (laws_toRate_ )) (gOf []) rfl Tryd.func34 rfl rfl rfl (gOf_nil) (by kernel_rfl) (by kernel_rfl)
theorem ok_laws_toRate : CtrOK Tryd.prog 34 (con_laws_toRate fun _ => g_laws_toRate) := (okp_laws_toRate  ).nice e_laws_toRate

theorem okp_laws_toPump (laws_toRate : Nat → (Int × Int × Int) → Option ((Int × Int × Int))) (h34 : CtrOK Tryd.prog 34 (con_laws_toRate laws_toRate)) : CtrOK Tryd.prog 15 (con_laws_toPump (laws_toPump_ laws_toRate )) :=
  fun_ok0 (c := Tryd.f15.body.getD .skip) (con_laws_toPump (laws_toPump_ laws_toRate )) (gOf [(34, con_laws_toRate laws_toRate)]) rfl Tryd.func15 rfl rfl rfl (gOf_cons h34 (gOf_nil)) (by kernel_rfl) (by kernel_rfl)
theorem ok_laws_toPump : CtrOK Tryd.prog 15 (con_laws_toPump fun _ => g_laws_toPump) := (okp_laws_toPump _ ok_laws_toRate).nice e_laws_toPump

theorem okp_laws_toDevice (laws_toGuard : Nat → (List Int × Int) → Option ((List Int × Int))) (laws_toMenu : Nat → (Int × Bool × Int × Int × ByteArray) → Option ((Int × Bool × Int × Int × ByteArray))) (laws_toPump : Nat → (Int × Int × Int × Int × Int × Int × Int × Int) → Option ((Int × Int × Int × Int × Int × Int × Int × Int))) (laws_toTickS : Nat → ((List (Int × (Int × Int)))) → Option (((List (Int × (Int × Int)))))) (h16 : CtrOK Tryd.prog 16 (con_laws_toGuard laws_toGuard)) (h17 : CtrOK Tryd.prog 17 (con_laws_toMenu laws_toMenu)) (h15 : CtrOK Tryd.prog 15 (con_laws_toPump laws_toPump)) (h18 : CtrOK Tryd.prog 18 (con_laws_toTickS laws_toTickS)) : CtrOK Tryd.prog 6 (con_laws_toDevice (laws_toDevice_ laws_toGuard laws_toMenu laws_toPump laws_toTickS )) :=
  fun_ok0 (c := Tryd.f6.body.getD .skip) (con_laws_toDevice (laws_toDevice_ laws_toGuard laws_toMenu laws_toPump laws_toTickS )) (gOf [(16, con_laws_toGuard laws_toGuard), (17, con_laws_toMenu laws_toMenu), (15, con_laws_toPump laws_toPump), (18, con_laws_toTickS laws_toTickS)]) rfl Tryd.func6 rfl rfl rfl (gOf_cons h16 (gOf_cons h17 (gOf_cons h15 (gOf_cons h18 (gOf_nil))))) (by kernel_rfl) (by kernel_rfl)
theorem ok_laws_toDevice : CtrOK Tryd.prog 6 (con_laws_toDevice fun _ => g_laws_toDevice) := (okp_laws_toDevice _ _ _ _ ok_laws_toGuard ok_laws_toMenu ok_laws_toPump ok_laws_toTickS).nice e_laws_toDevice

theorem okp_impl_within : CtrOK Tryd.prog 49 (con_impl_within (impl_within_ )) :=
  fun_ok0 (c := Tryd.f49.body.getD .skip) (con_impl_within (impl_within_ )) (gOf []) rfl Tryd.func49 rfl rfl rfl (gOf_nil) (by kernel_rfl) (by kernel_rfl)
theorem ok_impl_within : CtrOK Tryd.prog 49 (con_impl_within fun _ => g_impl_within) := (okp_impl_within  ).nice e_impl_within

theorem okp_impl_SenseOk (impl_within : Nat → Int × Int × Int → Option (Bool)) (h49 : CtrOK Tryd.prog 49 (con_impl_within impl_within)) : CtrOK Tryd.prog 42 (con_impl_SenseOk (impl_SenseOk_ impl_within )) :=
  fun_ok0 (c := Tryd.f42.body.getD .skip) (con_impl_SenseOk (impl_SenseOk_ impl_within )) (gOf [(49, con_impl_within impl_within)]) rfl Tryd.func42 rfl rfl rfl (gOf_cons h49 (gOf_nil)) (by kernel_rfl) (by kernel_rfl)
theorem ok_impl_SenseOk : CtrOK Tryd.prog 42 (con_impl_SenseOk fun _ => g_impl_SenseOk) := (okp_impl_SenseOk _ ok_impl_within).nice e_impl_SenseOk

def lp_impl_SenseNames_7 : LP := ⟨[(0, false, [.int .i64]), (3, false, [.sl 0]), (12, false, [.sl 1]), (13, false, [.int .i64]), (14, false, [.int .i64])], [.row .str 9, .row .str 9], 0⟩
theorem okp_impl_SenseNames (impl_SenseOk : Nat → Int → Option (Bool)) (strings_Join : Nat → List ByteArray × ByteArray → Option (ByteArray)) (h42 : CtrOK Tryd.prog 42 (con_impl_SenseOk impl_SenseOk)) (h43 : CtrOK Tryd.prog 43 (con_strings_Join strings_Join)) : CtrOK Tryd.prog 21 (con_impl_SenseNames (impl_SenseNames_ impl_SenseOk strings_Join )) :=
  fun_ok (c := Tryd.f21.body.getD .skip) (con_impl_SenseNames (impl_SenseNames_ impl_SenseOk strings_Join )) (gOf [(42, con_impl_SenseOk impl_SenseOk), (43, con_strings_Join strings_Join)]) [] [⟨7, lp_impl_SenseNames_7, impl_SenseNames_L7 impl_SenseOk strings_Join ⟩] rfl Tryd.func21 rfl rfl rfl (gOf_cons h42 (gOf_cons h43 (gOf_nil))) (by kernel_rfl) [7] 0 (by kernel_rfl) (by kernel_rfl)
    (fun x => .cons (⟨7, lp_impl_SenseNames_7, impl_SenseNames_L7 impl_SenseOk strings_Join ⟩ : Lab (OKs [.v false [.str]])) rfl rfl (by kernel_rfl) (by kernel_rfl) (.nil _))
theorem ok_impl_SenseNames : CtrOK Tryd.prog 21 (con_impl_SenseNames fun _ => g_impl_SenseNames) := (okp_impl_SenseNames _ _ ok_impl_SenseOk ok_strings_Join).nice e_impl_SenseNames

theorem okp_impl_Decimal (strconv_Itoa : Nat → Int → Option (ByteArray)) (h41 : CtrOK Tryd.prog 41 (con_strconv_Itoa strconv_Itoa)) : CtrOK Tryd.prog 20 (con_impl_Decimal (impl_Decimal_ strconv_Itoa )) :=
  fun_ok0 (c := Tryd.f20.body.getD .skip) (con_impl_Decimal (impl_Decimal_ strconv_Itoa )) (gOf [(41, con_strconv_Itoa strconv_Itoa)]) rfl Tryd.func20 rfl rfl rfl (gOf_cons h41 (gOf_nil)) (by kernel_rfl) (by kernel_rfl)
theorem ok_impl_Decimal : CtrOK Tryd.prog 20 (con_impl_Decimal fun _ => g_impl_Decimal) := (okp_impl_Decimal _ ok_strconv_Itoa).nice e_impl_Decimal

theorem okp_impl_isNumber (impl_within : Nat → Int × Int × Int → Option (Bool)) (h49 : CtrOK Tryd.prog 49 (con_impl_within impl_within)) : CtrOK Tryd.prog 40 (con_impl_isNumber (impl_isNumber_ impl_within )) :=
  fun_ok0 (c := Tryd.f40.body.getD .skip) (con_impl_isNumber (impl_isNumber_ impl_within )) (gOf [(49, con_impl_within impl_within)]) rfl Tryd.func40 rfl rfl rfl (gOf_cons h49 (gOf_nil)) (by kernel_rfl) (by kernel_rfl)
theorem ok_impl_isNumber : CtrOK Tryd.prog 40 (con_impl_isNumber fun _ => g_impl_isNumber) := (okp_impl_isNumber _ ok_impl_within).nice e_impl_isNumber

theorem okp_impl_MenuNew : CtrOK Tryd.prog 52 (con_impl_MenuNew (impl_MenuNew_ )) :=
  fun_ok0 (c := Tryd.f52.body.getD .skip) (con_impl_MenuNew (impl_MenuNew_ )) (gOf []) rfl Tryd.func52 rfl rfl rfl (gOf_nil) (by kernel_rfl) (by kernel_rfl)
theorem ok_impl_MenuNew : CtrOK Tryd.prog 52 (con_impl_MenuNew fun _ => g_impl_MenuNew) := (okp_impl_MenuNew  ).nice e_impl_MenuNew

def lp_impl_MenuOk_2 : LP := ⟨[(1, false, [.ptr 0 0]), (6, false, [.int .i64]), (7, false, [.int .i64])], [.box [.int .i64, .bool, .int .i64, .int .i64, .str] 40], 0⟩
theorem okp_impl_MenuOk (impl_MenuNew : Nat → Unit → Option ((Int × Bool × Int × Int × ByteArray))) (impl_within : Nat → Int × Int × Int → Option (Bool)) (h52 : CtrOK Tryd.prog 52 (con_impl_MenuNew impl_MenuNew)) (h49 : CtrOK Tryd.prog 49 (con_impl_within impl_within)) : CtrOK Tryd.prog 39 (con_impl_MenuOk (impl_MenuOk_ impl_MenuNew impl_within )) :=
  fun_ok (c := Tryd.f39.body.getD .skip) (con_impl_MenuOk (impl_MenuOk_ impl_MenuNew impl_within )) (gOf [(52, con_impl_MenuNew impl_MenuNew), (49, con_impl_within impl_within)]) [] [⟨2, lp_impl_MenuOk_2, impl_MenuOk_L2 impl_MenuNew impl_within ⟩] rfl Tryd.func39 rfl rfl rfl (gOf_cons h52 (gOf_cons h49 (gOf_nil))) (by kernel_rfl) [2] 0 (by kernel_rfl) (by kernel_rfl)
    (fun x => .cons (⟨2, lp_impl_MenuOk_2, impl_MenuOk_L2 impl_MenuNew impl_within ⟩ : Lab (OKs [.v false [.bool]])) rfl rfl (by kernel_rfl) (by kernel_rfl) (.nil _))
theorem ok_impl_MenuOk : CtrOK Tryd.prog 39 (con_impl_MenuOk fun _ => g_impl_MenuOk) := (okp_impl_MenuOk _ _ ok_impl_MenuNew ok_impl_within).nice e_impl_MenuOk

def lp_impl_RoomOf_3 : LP := ⟨[(3, false, [.int .i64]), (7, false, [.sl 0]), (8, false, [.int .i64]), (9, false, [.int .i64])], [.ro (.int .i64) 0], 1⟩
theorem okp_impl_RoomOf : CtrOK Tryd.prog 51 (con_impl_RoomOf (impl_RoomOf_ )) :=
  fun_ok (c := Tryd.f51.body.getD .skip) (con_impl_RoomOf (impl_RoomOf_ )) (gOf []) [] [⟨3, lp_impl_RoomOf_3, impl_RoomOf_L3 ⟩] rfl Tryd.func51 rfl rfl rfl (gOf_nil) (by kernel_rfl) [3] 1 (by kernel_rfl) (by kernel_rfl)
    (fun x => .cons (⟨3, lp_impl_RoomOf_3, impl_RoomOf_L3 ⟩ : Lab (OKs [.v false [.int .i64]])) rfl rfl (by kernel_rfl) (by kernel_rfl) (.nil _))
theorem ok_impl_RoomOf : CtrOK Tryd.prog 51 (con_impl_RoomOf fun _ => g_impl_RoomOf) := (okp_impl_RoomOf  ).nice e_impl_RoomOf

def lp_impl_GuardOk_2 : LP := ⟨[(1, false, [.ptr 1 0]), (6, false, [.sl 0]), (7, false, [.int .i64]), (8, false, [.int .i64])], [.ro (.int .i64) 0, .box [.sl 0, .int .i64] 39], 1⟩
theorem okp_impl_GuardOk (impl_RoomOf : Nat → (List Int × Int) → Option (Int)) (impl_SenseOk : Nat → Int → Option (Bool)) (impl_within : Nat → Int × Int × Int → Option (Bool)) (h51 : CtrOK Tryd.prog 51 (con_impl_RoomOf impl_RoomOf)) (h42 : CtrOK Tryd.prog 42 (con_impl_SenseOk impl_SenseOk)) (h49 : CtrOK Tryd.prog 49 (con_impl_within impl_within)) : CtrOK Tryd.prog 38 (con_impl_GuardOk (impl_GuardOk_ impl_RoomOf impl_SenseOk impl_within )) :=
  fun_ok (c := Tryd.f38.body.getD .skip) (con_impl_GuardOk (impl_GuardOk_ impl_RoomOf impl_SenseOk impl_within )) (gOf [(51, con_impl_RoomOf impl_RoomOf), (42, con_impl_SenseOk impl_SenseOk), (49, con_impl_within impl_within)]) [] [⟨2, lp_impl_GuardOk_2, impl_GuardOk_L2 impl_RoomOf impl_SenseOk impl_within ⟩] rfl Tryd.func38 rfl rfl rfl (gOf_cons h51 (gOf_cons h42 (gOf_cons h49 (gOf_nil)))) (by kernel_rfl) [2] 1 (by kernel_rfl) (by kernel_rfl)
    (fun x => .cons (⟨2, lp_impl_GuardOk_2, impl_GuardOk_L2 impl_RoomOf impl_SenseOk impl_within ⟩ : Lab (OKs [.v false [.bool]])) rfl rfl (by kernel_rfl) (by kernel_rfl) (.nil _))
theorem ok_impl_GuardOk : CtrOK Tryd.prog 38 (con_impl_GuardOk fun _ => g_impl_GuardOk) := (okp_impl_GuardOk _ _ _ ok_impl_RoomOf ok_impl_SenseOk ok_impl_within).nice e_impl_GuardOk

theorem okp_impl_RateOk (impl_within : Nat → Int × Int × Int → Option (Bool)) (h49 : CtrOK Tryd.prog 49 (con_impl_within impl_within)) : CtrOK Tryd.prog 50 (con_impl_RateOk (impl_RateOk_ impl_within )) :=
  fun_ok0 (c := Tryd.f50.body.getD .skip) (con_impl_RateOk (impl_RateOk_ impl_within )) (gOf [(49, con_impl_within impl_within)]) rfl Tryd.func50 rfl rfl rfl (gOf_cons h49 (gOf_nil)) (by kernel_rfl) (by kernel_rfl)
theorem ok_impl_RateOk : CtrOK Tryd.prog 50 (con_impl_RateOk fun _ => g_impl_RateOk) := (okp_impl_RateOk _ ok_impl_within).nice e_impl_RateOk

theorem okp_impl_PumpOk (impl_RateOk : Nat → (Int × Int × Int) → Option (Bool)) (impl_within : Nat → Int × Int × Int → Option (Bool)) (h50 : CtrOK Tryd.prog 50 (con_impl_RateOk impl_RateOk)) (h49 : CtrOK Tryd.prog 49 (con_impl_within impl_within)) : CtrOK Tryd.prog 37 (con_impl_PumpOk (impl_PumpOk_ impl_RateOk impl_within )) :=
  fun_ok0 (c := Tryd.f37.body.getD .skip) (con_impl_PumpOk (impl_PumpOk_ impl_RateOk impl_within )) (gOf [(50, con_impl_RateOk impl_RateOk), (49, con_impl_within impl_within)]) rfl Tryd.func37 rfl rfl rfl (gOf_cons h50 (gOf_cons h49 (gOf_nil))) (by kernel_rfl) (by kernel_rfl)
theorem ok_impl_PumpOk : CtrOK Tryd.prog 37 (con_impl_PumpOk fun _ => g_impl_PumpOk) := (okp_impl_PumpOk _ _ ok_impl_RateOk ok_impl_within).nice e_impl_PumpOk

theorem okp_impl_DeviceOk (impl_GuardOk : Nat → (List Int × Int) → Option (Bool)) (impl_MenuOk : Nat → (Int × Bool × Int × Int × ByteArray) → Option (Bool)) (impl_PumpOk : Nat → (Int × Int × Int × Int × Int × Int × Int × Int) → Option (Bool)) (impl_isNumber : Nat → Int → Option (Bool)) (h38 : CtrOK Tryd.prog 38 (con_impl_GuardOk impl_GuardOk)) (h39 : CtrOK Tryd.prog 39 (con_impl_MenuOk impl_MenuOk)) (h37 : CtrOK Tryd.prog 37 (con_impl_PumpOk impl_PumpOk)) (h40 : CtrOK Tryd.prog 40 (con_impl_isNumber impl_isNumber)) : CtrOK Tryd.prog 19 (con_impl_DeviceOk (impl_DeviceOk_ impl_GuardOk impl_MenuOk impl_PumpOk impl_isNumber )) :=
  fun_ok0 (c := Tryd.f19.body.getD .skip) (con_impl_DeviceOk (impl_DeviceOk_ impl_GuardOk impl_MenuOk impl_PumpOk impl_isNumber )) (gOf [(38, con_impl_GuardOk impl_GuardOk), (39, con_impl_MenuOk impl_MenuOk), (37, con_impl_PumpOk impl_PumpOk), (40, con_impl_isNumber impl_isNumber)]) rfl Tryd.func19 rfl rfl rfl (gOf_cons h38 (gOf_cons h39 (gOf_cons h37 (gOf_cons h40 (gOf_nil))))) (by kernel_rfl) (by kernel_rfl)
theorem ok_impl_DeviceOk : CtrOK Tryd.prog 19 (con_impl_DeviceOk fun _ => g_impl_DeviceOk) := (okp_impl_DeviceOk _ _ _ _ ok_impl_GuardOk ok_impl_MenuOk ok_impl_PumpOk ok_impl_isNumber).nice e_impl_DeviceOk

theorem okp_impl_ShowDevice (impl_Decimal : Nat → Int → Option (ByteArray)) (impl_DeviceOk : Nat → (Int × Int × Int × Int × Int × Int × Int × Int × List Int × Int × Int × Bool × Int × Int × ByteArray × (List (Int × (Int × Int))) × Int) → Option (Bool)) (impl_SenseNames : Nat → Int → Option (ByteArray)) (h20 : CtrOK Tryd.prog 20 (con_impl_Decimal impl_Decimal)) (h19 : CtrOK Tryd.prog 19 (con_impl_DeviceOk impl_DeviceOk)) (h21 : CtrOK Tryd.prog 21 (con_impl_SenseNames impl_SenseNames)) : CtrOK Tryd.prog 7 (con_impl_ShowDevice (impl_ShowDevice_ impl_Decimal impl_DeviceOk impl_SenseNames )) :=
  fun_ok0 (c := Tryd.f7.body.getD .skip) (con_impl_ShowDevice (impl_ShowDevice_ impl_Decimal impl_DeviceOk impl_SenseNames )) (gOf [(20, con_impl_Decimal impl_Decimal), (19, con_impl_DeviceOk impl_DeviceOk), (21, con_impl_SenseNames impl_SenseNames)]) rfl Tryd.func7 rfl rfl rfl (gOf_cons h20 (gOf_cons h19 (gOf_cons h21 (gOf_nil)))) (by kernel_rfl) (by kernel_rfl)
theorem ok_impl_ShowDevice : CtrOK Tryd.prog 7 (con_impl_ShowDevice fun _ => g_impl_ShowDevice) := (okp_impl_ShowDevice _ _ _ ok_impl_Decimal ok_impl_DeviceOk ok_impl_SenseNames).nice e_impl_ShowDevice

theorem okp_spec_l01In : CtrOK Tryd.prog 30 (con_spec_l01In (spec_l01In_ )) :=
  fun_ok0 (c := Tryd.f30.body.getD .skip) (con_spec_l01In (spec_l01In_ )) (gOf []) rfl Tryd.func30 rfl rfl rfl (gOf_nil) (by kernel_rfl) (by kernel_rfl)
theorem ok_spec_l01In : CtrOK Tryd.prog 30 (con_spec_l01In fun _ => g_spec_l01In) := (okp_spec_l01In  ).nice e_spec_l01In

theorem okp_spec_SenseOk (spec_l01In : Nat → Int × Int × Int → Option (Bool)) (h30 : CtrOK Tryd.prog 30 (con_spec_l01In spec_l01In)) : CtrOK Tryd.prog 32 (con_spec_SenseOk (spec_SenseOk_ spec_l01In )) :=
  fun_ok0 (c := Tryd.f32.body.getD .skip) (con_spec_SenseOk (spec_SenseOk_ spec_l01In )) (gOf [(30, con_spec_l01In spec_l01In)]) rfl Tryd.func32 rfl rfl rfl (gOf_cons h30 (gOf_nil)) (by kernel_rfl) (by kernel_rfl)
theorem ok_spec_SenseOk : CtrOK Tryd.prog 32 (con_spec_SenseOk fun _ => g_spec_SenseOk) := (okp_spec_SenseOk _ ok_spec_l01In).nice e_spec_SenseOk

theorem okp_spec_Has (spec_SenseOk : Nat → Int → Option (Bool)) (h32 : CtrOK Tryd.prog 32 (con_spec_SenseOk spec_SenseOk)) : CtrOK Tryd.prog 33 (con_spec_Has (spec_Has_ spec_SenseOk )) :=
  fun_ok0 (c := Tryd.f33.body.getD .skip) (con_spec_Has (spec_Has_ spec_SenseOk )) (gOf [(32, con_spec_SenseOk spec_SenseOk)]) rfl Tryd.func33 rfl rfl rfl (gOf_cons h32 (gOf_nil)) (by kernel_rfl) (by kernel_rfl)
theorem ok_spec_Has : CtrOK Tryd.prog 33 (con_spec_Has fun _ => g_spec_Has) := (okp_spec_Has _ ok_spec_SenseOk).nice e_spec_Has

def lp_spec_SenseNames_7 : LP := ⟨[(0, false, [.int .i64]), (3, false, [.sl 0]), (4, false, [.sl 1]), (5, false, [.str]), (6, false, [.int .i64])], [.row .str 9, .row (.int .i64) 3], 0⟩
theorem okp_spec_SenseNames (spec_Has : Nat → Int × Int → Option (Bool)) (spec_SenseOk : Nat → Int → Option (Bool)) (h33 : CtrOK Tryd.prog 33 (con_spec_Has spec_Has)) (h32 : CtrOK Tryd.prog 32 (con_spec_SenseOk spec_SenseOk)) : CtrOK Tryd.prog 14 (con_spec_SenseNames (spec_SenseNames_ spec_Has spec_SenseOk )) :=
  fun_ok (c := Tryd.f14.body.getD .skip) (con_spec_SenseNames (spec_SenseNames_ spec_Has spec_SenseOk )) (gOf [(33, con_spec_Has spec_Has), (32, con_spec_SenseOk spec_SenseOk)]) [] [⟨7, lp_spec_SenseNames_7, spec_SenseNames_L7 spec_Has spec_SenseOk ⟩] rfl Tryd.func14 rfl rfl rfl (gOf_cons h33 (gOf_cons h32 (gOf_nil))) (by kernel_rfl) [7] 0 (by kernel_rfl) (by kernel_rfl)
    (fun x => .cons (⟨7, lp_spec_SenseNames_7, spec_SenseNames_L7 spec_Has spec_SenseOk ⟩ : Lab (OKs [.v false [.str]])) rfl rfl (by kernel_rfl) (by kernel_rfl) (.nil _))
theorem ok_spec_SenseNames : CtrOK Tryd.prog 14 (con_spec_SenseNames fun _ => g_spec_SenseNames) := (okp_spec_SenseNames _ _ ok_spec_Has ok_spec_SenseOk).nice e_spec_SenseNames

theorem okp_spec_l01Figure : CtrOK Tryd.prog 31 (con_spec_l01Figure (spec_l01Figure_ )) :=
  fun_ok0 (c := Tryd.f31.body.getD .skip) (con_spec_l01Figure (spec_l01Figure_ )) (gOf []) rfl Tryd.func31 rfl rfl rfl (gOf_nil) (by kernel_rfl) (by kernel_rfl)
theorem ok_spec_l01Figure : CtrOK Tryd.prog 31 (con_spec_l01Figure fun _ => g_spec_l01Figure) := (okp_spec_l01Figure  ).nice e_spec_l01Figure

def lp_spec_Decimal_5 : LP := ⟨[(0, false, [.int .i64]), (3, false, [.bool]), (4, false, [.str])], [], 0⟩
theorem okp_spec_Decimal (spec_l01Figure : Nat → Int → Option (Int)) (h31 : CtrOK Tryd.prog 31 (con_spec_l01Figure spec_l01Figure)) : CtrOK Tryd.prog 13 (con_spec_Decimal (spec_Decimal_ spec_l01Figure )) :=
  fun_ok (c := Tryd.f13.body.getD .skip) (con_spec_Decimal (spec_Decimal_ spec_l01Figure )) (gOf [(31, con_spec_l01Figure spec_l01Figure)]) [] [⟨5, lp_spec_Decimal_5, spec_Decimal_L5 spec_l01Figure ⟩] rfl Tryd.func13 rfl rfl rfl (gOf_cons h31 (gOf_nil)) (by kernel_rfl) [5] 0 (by kernel_rfl) (by kernel_rfl)
    (fun x => .cons (⟨5, lp_spec_Decimal_5, spec_Decimal_L5 spec_l01Figure ⟩ : Lab (OKs [.v false [.str]])) rfl rfl (by kernel_rfl) (by kernel_rfl) (.nil _))
theorem ok_spec_Decimal : CtrOK Tryd.prog 13 (con_spec_Decimal fun _ => g_spec_Decimal) := (okp_spec_Decimal _ ok_spec_l01Figure).nice e_spec_Decimal

def lp_spec_MenuOk_4 : LP := ⟨[(1, false, [.ptr 0 0]), (3, false, [.int .i64])], [.box [.int .i64, .bool, .int .i64, .int .i64, .str] 40], 0⟩
theorem okp_spec_MenuOk (spec_l01In : Nat → Int × Int × Int → Option (Bool)) (h30 : CtrOK Tryd.prog 30 (con_spec_l01In spec_l01In)) : CtrOK Tryd.prog 29 (con_spec_MenuOk (spec_MenuOk_ spec_l01In )) :=
  fun_ok (c := Tryd.f29.body.getD .skip) (con_spec_MenuOk (spec_MenuOk_ spec_l01In )) (gOf [(30, con_spec_l01In spec_l01In)]) [] [⟨4, lp_spec_MenuOk_4, spec_MenuOk_L4 spec_l01In ⟩] rfl Tryd.func29 rfl rfl rfl (gOf_cons h30 (gOf_nil)) (by kernel_rfl) [4] 0 (by kernel_rfl) (by kernel_rfl)
    (fun x => .cons (⟨4, lp_spec_MenuOk_4, spec_MenuOk_L4 spec_l01In ⟩ : Lab (OKs [.v false [.bool]])) rfl rfl (by kernel_rfl) (by kernel_rfl) (.nil _))
theorem ok_spec_MenuOk : CtrOK Tryd.prog 29 (con_spec_MenuOk fun _ => g_spec_MenuOk) := (okp_spec_MenuOk _ ok_spec_l01In).nice e_spec_MenuOk

def lp_spec_l16Sum_3 : LP := ⟨[(0, false, [.sl 0]), (3, false, [.int .i64]), (4, false, [.int .i64])], [.ro (.int .i64) 0], 1⟩
theorem okp_spec_l16Sum : CtrOK Tryd.prog 48 (con_spec_l16Sum (spec_l16Sum_ )) :=
  fun_ok (c := Tryd.f48.body.getD .skip) (con_spec_l16Sum (spec_l16Sum_ )) (gOf []) [] [⟨3, lp_spec_l16Sum_3, spec_l16Sum_L3 ⟩] rfl Tryd.func48 rfl rfl rfl (gOf_nil) (by kernel_rfl) [3] 1 (by kernel_rfl) (by kernel_rfl)
    (fun x => .cons (⟨3, lp_spec_l16Sum_3, spec_l16Sum_L3 ⟩ : Lab (OKs [.v false [.int .i64]])) rfl rfl (by kernel_rfl) (by kernel_rfl) (.nil _))
theorem ok_spec_l16Sum : CtrOK Tryd.prog 48 (con_spec_l16Sum fun _ => g_spec_l16Sum) := (okp_spec_l16Sum  ).nice e_spec_l16Sum

def lp_spec_GuardOk_4 : LP := ⟨[(1, false, [.ptr 1 0]), (3, false, [.int .i64])], [.ro (.int .i64) 0, .box [.sl 0, .int .i64] 39], 1⟩
theorem okp_spec_GuardOk (spec_SenseOk : Nat → Int → Option (Bool)) (spec_l01In : Nat → Int × Int × Int → Option (Bool)) (spec_l16Sum : Nat → List Int → Option (Int)) (h32 : CtrOK Tryd.prog 32 (con_spec_SenseOk spec_SenseOk)) (h30 : CtrOK Tryd.prog 30 (con_spec_l01In spec_l01In)) (h48 : CtrOK Tryd.prog 48 (con_spec_l16Sum spec_l16Sum)) : CtrOK Tryd.prog 28 (con_spec_GuardOk (spec_GuardOk_ spec_SenseOk spec_l01In spec_l16Sum )) :=
  fun_ok (c := Tryd.f28.body.getD .skip) (con_spec_GuardOk (spec_GuardOk_ spec_SenseOk spec_l01In spec_l16Sum )) (gOf [(32, con_spec_SenseOk spec_SenseOk), (30, con_spec_l01In spec_l01In), (48, con_spec_l16Sum spec_l16Sum)]) [] [⟨4, lp_spec_GuardOk_4, spec_GuardOk_L4 spec_SenseOk spec_l01In spec_l16Sum ⟩] rfl Tryd.func28 rfl rfl rfl (gOf_cons h32 (gOf_cons h30 (gOf_cons h48 (gOf_nil)))) (by kernel_rfl) [4] 1 (by kernel_rfl) (by kernel_rfl)
    (fun x => .cons (⟨4, lp_spec_GuardOk_4, spec_GuardOk_L4 spec_SenseOk spec_l01In spec_l16Sum ⟩ : Lab (OKs [.v false [.bool]])) rfl rfl (by kernel_rfl) (by kernel_rfl) (.nil _))
theorem ok_spec_GuardOk : CtrOK Tryd.prog 28 (con_spec_GuardOk fun _ => g_spec_GuardOk) := (okp_spec_GuardOk _ _ _ ok_spec_SenseOk ok_spec_l01In ok_spec_l16Sum).nice e_spec_GuardOk

theorem okp_spec_RateOk (spec_l01In : Nat → Int × Int × Int → Option (Bool)) (h30 : CtrOK Tryd.prog 30 (con_spec_l01In spec_l01In)) : CtrOK Tryd.prog 47 (con_spec_RateOk (spec_RateOk_ spec_l01In )) :=
  fun_ok0 (c := Tryd.f47.body.getD .skip) (con_spec_RateOk (spec_RateOk_ spec_l01In )) (gOf [(30, con_spec_l01In spec_l01In)]) rfl Tryd.func47 rfl rfl rfl (gOf_cons h30 (gOf_nil)) (by kernel_rfl) (by kernel_rfl)
theorem ok_spec_RateOk : CtrOK Tryd.prog 47 (con_spec_RateOk fun _ => g_spec_RateOk) := (okp_spec_RateOk _ ok_spec_l01In).nice e_spec_RateOk

theorem okp_spec_PumpOk (spec_RateOk : Nat → (Int × Int × Int) → Option (Bool)) (spec_l01In : Nat → Int × Int × Int → Option (Bool)) (h47 : CtrOK Tryd.prog 47 (con_spec_RateOk spec_RateOk)) (h30 : CtrOK Tryd.prog 30 (con_spec_l01In spec_l01In)) : CtrOK Tryd.prog 27 (con_spec_PumpOk (spec_PumpOk_ spec_RateOk spec_l01In )) :=
  fun_ok0 (c := Tryd.f27.body.getD .skip) (con_spec_PumpOk (spec_PumpOk_ spec_RateOk spec_l01In )) (gOf [(47, con_spec_RateOk spec_RateOk), (30, con_spec_l01In spec_l01In)]) rfl Tryd.func27 rfl rfl rfl (gOf_cons h47 (gOf_cons h30 (gOf_nil))) (by kernel_rfl) (by kernel_rfl)
theorem ok_spec_PumpOk : CtrOK Tryd.prog 27 (con_spec_PumpOk fun _ => g_spec_PumpOk) := (okp_spec_PumpOk _ _ ok_spec_RateOk ok_spec_l01In).nice e_spec_PumpOk

theorem okp_spec_DeviceOk (spec_GuardOk : Nat → (List Int × Int) → Option (Bool)) (spec_MenuOk : Nat → (Int × Bool × Int × Int × ByteArray) → Option (Bool)) (spec_PumpOk : Nat → (Int × Int × Int × Int × Int × Int × Int × Int) → Option (Bool)) (spec_l01In : Nat → Int × Int × Int → Option (Bool)) (h28 : CtrOK Tryd.prog 28 (con_spec_GuardOk spec_GuardOk)) (h29 : CtrOK Tryd.prog 29 (con_spec_MenuOk spec_MenuOk)) (h27 : CtrOK Tryd.prog 27 (con_spec_PumpOk spec_PumpOk)) (h30 : CtrOK Tryd.prog 30 (con_spec_l01In spec_l01In)) : CtrOK Tryd.prog 12 (con_spec_DeviceOk (spec_DeviceOk_ spec_GuardOk spec_MenuOk spec_PumpOk spec_l01In )) :=
  fun_ok0 (c := Tryd.f12.body.getD .skip) (con_spec_DeviceOk (spec_DeviceOk_ spec_GuardOk spec_MenuOk spec_PumpOk spec_l01In )) (gOf [(28, con_spec_GuardOk spec_GuardOk), (29, con_spec_MenuOk spec_MenuOk), (27, con_spec_PumpOk spec_PumpOk), (30, con_spec_l01In spec_l01In)]) rfl Tryd.func12 rfl rfl rfl (gOf_cons h28 (gOf_cons h29 (gOf_cons h27 (gOf_cons h30 (gOf_nil))))) (by kernel_rfl) (by kernel_rfl)
theorem ok_spec_DeviceOk : CtrOK Tryd.prog 12 (con_spec_DeviceOk fun _ => g_spec_DeviceOk) := (okp_spec_DeviceOk _ _ _ _ ok_spec_GuardOk ok_spec_MenuOk ok_spec_PumpOk ok_spec_l01In).nice e_spec_DeviceOk

theorem okp_spec_ShowDevice (spec_Decimal : Nat → Int → Option (ByteArray)) (spec_DeviceOk : Nat → (Int × Int × Int × Int × Int × Int × Int × Int × List Int × Int × Int × Bool × Int × Int × ByteArray × (List (Int × (Int × Int))) × Int) → Option (Bool)) (spec_SenseNames : Nat → Int → Option (ByteArray)) (h13 : CtrOK Tryd.prog 13 (con_spec_Decimal spec_Decimal)) (h12 : CtrOK Tryd.prog 12 (con_spec_DeviceOk spec_DeviceOk)) (h14 : CtrOK Tryd.prog 14 (con_spec_SenseNames spec_SenseNames)) : CtrOK Tryd.prog 5 (con_spec_ShowDevice (spec_ShowDevice_ spec_Decimal spec_DeviceOk spec_SenseNames )) :=
  fun_ok0 (c := Tryd.f5.body.getD .skip) (con_spec_ShowDevice (spec_ShowDevice_ spec_Decimal spec_DeviceOk spec_SenseNames )) (gOf [(13, con_spec_Decimal spec_Decimal), (12, con_spec_DeviceOk spec_DeviceOk), (14, con_spec_SenseNames spec_SenseNames)]) rfl Tryd.func5 rfl rfl rfl (gOf_cons h13 (gOf_cons h12 (gOf_cons h14 (gOf_nil)))) (by kernel_rfl) (by kernel_rfl)
theorem ok_spec_ShowDevice : CtrOK Tryd.prog 5 (con_spec_ShowDevice fun _ => g_spec_ShowDevice) := (okp_spec_ShowDevice _ _ _ ok_spec_Decimal ok_spec_DeviceOk ok_spec_SenseNames).nice e_spec_ShowDevice

theorem okp_laws_szTickS : CtrOK Tryd.prog 11 (con_laws_szTickS (laws_szTickS_ )) :=
  fun_ok0 (c := Tryd.f11.body.getD .skip) (con_laws_szTickS (laws_szTickS_ )) (gOf []) rfl Tryd.func11 rfl rfl rfl (gOf_nil) (by kernel_rfl) (by kernel_rfl)
theorem ok_laws_szTickS : CtrOK Tryd.prog 11 (con_laws_szTickS fun _ => g_laws_szTickS) := (okp_laws_szTickS  ).nice e_laws_szTickS

theorem okp_laws_szMenu : CtrOK Tryd.prog 10 (con_laws_szMenu (laws_szMenu_ )) :=
  fun_ok0 (c := Tryd.f10.body.getD .skip) (con_laws_szMenu (laws_szMenu_ )) (gOf []) rfl Tryd.func10 rfl rfl rfl (gOf_nil) (by kernel_rfl) (by kernel_rfl)
theorem ok_laws_szMenu : CtrOK Tryd.prog 10 (con_laws_szMenu fun _ => g_laws_szMenu) := (okp_laws_szMenu  ).nice e_laws_szMenu

theorem okp_laws_szIntS : CtrOK Tryd.prog 26 (con_laws_szIntS (laws_szIntS_ )) :=
  fun_ok0 (c := Tryd.f26.body.getD .skip) (con_laws_szIntS (laws_szIntS_ )) (gOf []) rfl Tryd.func26 rfl rfl rfl (gOf_nil) (by kernel_rfl) (by kernel_rfl)
theorem ok_laws_szIntS : CtrOK Tryd.prog 26 (con_laws_szIntS fun _ => g_laws_szIntS) := (okp_laws_szIntS  ).nice e_laws_szIntS

theorem okp_laws_szGuard (laws_szIntS : Nat → List Int × Int → Option (Int)) (h26 : CtrOK Tryd.prog 26 (con_laws_szIntS laws_szIntS)) : CtrOK Tryd.prog 9 (con_laws_szGuard (laws_szGuard_ laws_szIntS )) :=
  fun_ok0 (c := Tryd.f9.body.getD .skip) (con_laws_szGuard (laws_szGuard_ laws_szIntS )) (gOf [(26, con_laws_szIntS laws_szIntS)]) rfl Tryd.func9 rfl rfl rfl (gOf_cons h26 (gOf_nil)) (by kernel_rfl) (by kernel_rfl)
theorem ok_laws_szGuard : CtrOK Tryd.prog 9 (con_laws_szGuard fun _ => g_laws_szGuard) := (okp_laws_szGuard _ ok_laws_szIntS).nice e_laws_szGuard

theorem okp_laws_szDevice (laws_szGuard : Nat → (List Int × Int) × Int → Option (Int)) (laws_szMenu : Nat → (Int × Bool × Int × Int × ByteArray) × Int → Option (Int)) (laws_szTickS : Nat → ((List (Int × (Int × Int)))) × Int → Option (Int)) (h9 : CtrOK Tryd.prog 9 (con_laws_szGuard laws_szGuard)) (h10 : CtrOK Tryd.prog 10 (con_laws_szMenu laws_szMenu)) (h11 : CtrOK Tryd.prog 11 (con_laws_szTickS laws_szTickS)) : CtrOK Tryd.prog 4 (con_laws_szDevice (laws_szDevice_ laws_szGuard laws_szMenu laws_szTickS )) :=
  fun_ok0 (c := Tryd.f4.body.getD .skip) (con_laws_szDevice (laws_szDevice_ laws_szGuard laws_szMenu laws_szTickS )) (gOf [(9, con_laws_szGuard laws_szGuard), (10, con_laws_szMenu laws_szMenu), (11, con_laws_szTickS laws_szTickS)]) rfl Tryd.func4 rfl rfl rfl (gOf_cons h9 (gOf_cons h10 (gOf_cons h11 (gOf_nil)))) (by kernel_rfl) (by kernel_rfl)
theorem ok_laws_szDevice : CtrOK Tryd.prog 4 (con_laws_szDevice fun _ => g_laws_szDevice) := (okp_laws_szDevice _ _ _ ok_laws_szGuard ok_laws_szMenu ok_laws_szTickS).nice e_laws_szDevice

theorem okp_laws_FnExactShowDevice (impl_ShowDevice : Nat → (Int × Int × Int × Int × Int × Int × Int × Int × List Int × Int × Int × Bool × Int × Int × ByteArray × (List (Int × (Int × Int))) × Int) → Option (ByteArray)) (laws_eqDevice : Nat → (Int × Int × Int × Int × Int × Int × Int × Int × List Int × Int × Int × Bool × Int × Int × ByteArray × (List (Int × (Int × Int))) × Int) × (Int × Int × Int × Int × Int × Int × Int × Int × List Int × Int × Int × Bool × Int × Int × ByteArray × (List (Int × (Int × Int))) × Int) → Option (Bool)) (laws_szDevice : Nat → (Int × Int × Int × Int × Int × Int × Int × Int × List Int × Int × Int × Bool × Int × Int × ByteArray × (List (Int × (Int × Int))) × Int) × Int → Option (Int)) (laws_toDevice : Nat → (Int × Int × Int × Int × Int × Int × Int × Int × List Int × Int × Int × Bool × Int × Int × ByteArray × (List (Int × (Int × Int))) × Int) → Option ((Int × Int × Int × Int × Int × Int × Int × Int × List Int × Int × Int × Bool × Int × Int × ByteArray × (List (Int × (Int × Int))) × Int))) (spec_ShowDevice : Nat → (Int × Int × Int × Int × Int × Int × Int × Int × List Int × Int × Int × Bool × Int × Int × ByteArray × (List (Int × (Int × Int))) × Int) → Option (ByteArray)) (h7 : CtrOK Tryd.prog 7 (con_impl_ShowDevice impl_ShowDevice)) (h8 : CtrOK Tryd.prog 8 (con_laws_eqDevice laws_eqDevice)) (h4 : CtrOK Tryd.prog 4 (con_laws_szDevice laws_szDevice)) (h6 : CtrOK Tryd.prog 6 (con_laws_toDevice laws_toDevice)) (h5 : CtrOK Tryd.prog 5 (con_spec_ShowDevice spec_ShowDevice)) : CtrOK Tryd.prog 3 (con_laws_FnExactShowDevice (laws_FnExactShowDevice_ impl_ShowDevice laws_eqDevice laws_szDevice laws_toDevice spec_ShowDevice )) :=
  fun_ok0 (c := Tryd.f3.body.getD .skip) (con_laws_FnExactShowDevice (laws_FnExactShowDevice_ impl_ShowDevice laws_eqDevice laws_szDevice laws_toDevice spec_ShowDevice )) (gOf [(7, con_impl_ShowDevice impl_ShowDevice), (8, con_laws_eqDevice laws_eqDevice), (4, con_laws_szDevice laws_szDevice), (6, con_laws_toDevice laws_toDevice), (5, con_spec_ShowDevice spec_ShowDevice)]) rfl Tryd.func3 rfl rfl rfl (gOf_cons h7 (gOf_cons h8 (gOf_cons h4 (gOf_cons h6 (gOf_cons h5 (gOf_nil)))))) (by kernel_rfl) (by kernel_rfl)
theorem ok_laws_FnExactShowDevice : CtrOK Tryd.prog 3 (con_laws_FnExactShowDevice fun _ => g_laws_FnExactShowDevice) := (okp_laws_FnExactShowDevice _ _ _ _ _ ok_impl_ShowDevice ok_laws_eqDevice ok_laws_szDevice ok_laws_toDevice ok_spec_ShowDevice).nice e_laws_FnExactShowDevice

end Go.Sx.T
