/- Functions of the program as functions of Lean, and that the program keeps to them. -/
import Derived.Test.YthimkepabblloaaFnOrdersA0
import Derived.Test.YthimkepabblloaaProg
set_option maxRecDepth 100000
set_option linter.unusedVariables false
set_option linter.unusedSimpArgs false
namespace Go.Proofs
end Go.Proofs
namespace Go.Sx.T
open Go Go.Sx Go.Proofs Go.RowKit
theorem okp_impl_within : CtrOK Try.prog 81 (con_impl_within (impl_within_ )) :=
  fun_ok0 (c := Try.f81.body.getD .skip) (con_impl_within (impl_within_ )) (gOf []) rfl Try.func81 rfl rfl rfl (gOf_nil) (by kernel_rfl) (by kernel_rfl)
theorem ok_impl_within : CtrOK Try.prog 81 (con_impl_within fun _ => g_impl_within) := (okp_impl_within  ).nice e_impl_within

theorem okp_impl_OrderOk (impl_within : Nat → Int × Int × Int → Option (Bool)) (h81 : CtrOK Try.prog 81 (con_impl_within impl_within)) : CtrOK Try.prog 35 (con_impl_OrderOk (impl_OrderOk_ impl_within )) :=
  fun_ok0 (c := Try.f35.body.getD .skip) (con_impl_OrderOk (impl_OrderOk_ impl_within )) (gOf [(81, con_impl_within impl_within)]) rfl Try.func35 rfl rfl rfl (gOf_cons h81 (gOf_nil)) (by kernel_rfl) (by kernel_rfl)
theorem ok_impl_OrderOk : CtrOK Try.prog 35 (con_impl_OrderOk fun _ => g_impl_OrderOk) := (okp_impl_OrderOk _ ok_impl_within).nice e_impl_OrderOk

def lp_impl_ReadVar_5 : LP := ⟨[(0, false, [.str]), (1, false, [.int .i64]), (7, false, [.int .i64]), (8, false, [.int .i64])], [], 0⟩
theorem okp_impl_ReadVar (impl_within : Nat → Int × Int × Int → Option (Bool)) (h81 : CtrOK Try.prog 81 (con_impl_within impl_within)) : CtrOK Try.prog 127 (con_impl_ReadVar (impl_ReadVar_ impl_within )) :=
  fun_ok (c := Try.f127.body.getD .skip) (con_impl_ReadVar (impl_ReadVar_ impl_within )) (gOf [(81, con_impl_within impl_within)]) [] [⟨5, lp_impl_ReadVar_5, impl_ReadVar_L5 impl_within ⟩] rfl Try.func127 rfl rfl rfl (gOf_cons h81 (gOf_nil)) (by kernel_rfl) [5] 0 (by kernel_rfl) (by kernel_rfl)
    (fun x => .cons (⟨5, lp_impl_ReadVar_5, impl_ReadVar_L5 impl_within ⟩ : Lab (OKs [.v false [.int .i64], .v false [.int .i64], .v false [.bool]])) rfl rfl (by kernel_rfl) (by kernel_rfl) (.nil _))
theorem ok_impl_ReadVar : CtrOK Try.prog 127 (con_impl_ReadVar fun _ => g_impl_ReadVar) := (okp_impl_ReadVar _ ok_impl_within).nice e_impl_ReadVar

theorem okp_impl_reader__number (impl_ReadVar : Nat → ByteArray × Int → Option (Int × Int × Bool)) (h127 : CtrOK Try.prog 127 (con_impl_ReadVar impl_ReadVar)) : CtrOK Try.prog 76 (con_impl_reader__number (impl_reader__number_ impl_ReadVar )) :=
  fun_ok0 (c := Try.f76.body.getD .skip) (con_impl_reader__number (impl_reader__number_ impl_ReadVar )) (gOf [(127, con_impl_ReadVar impl_ReadVar)]) rfl Try.func76 rfl rfl rfl (gOf_cons h127 (gOf_nil)) (by kernel_rfl) (by kernel_rfl)
theorem ok_impl_reader__number : CtrOK Try.prog 76 (con_impl_reader__number fun _ => g_impl_reader__number) := (okp_impl_reader__number _ ok_impl_ReadVar).nice e_impl_reader__number

def lp_impl_highFirst_3 : LP := ⟨[(0, false, [.int .i64]), (5, false, [.sl 0]), (6, false, [.int .i64])], [.row (.int .u8) 5], 0⟩
theorem okp_impl_highFirst : CtrOK Try.prog 141 (con_impl_highFirst (impl_highFirst_ )) :=
  fun_ok (c := Try.f141.body.getD .skip) (con_impl_highFirst (impl_highFirst_ )) (gOf []) [] [⟨3, lp_impl_highFirst_3, impl_highFirst_L3 ⟩] rfl Try.func141 rfl rfl rfl (gOf_nil) (by kernel_rfl) [3] 0 (by kernel_rfl) (by kernel_rfl)
    (fun x => .cons (⟨3, lp_impl_highFirst_3, impl_highFirst_L3 ⟩ : Lab (OKs [.v false [.str]])) rfl rfl (by kernel_rfl) (by kernel_rfl) (.nil _))
theorem ok_impl_highFirst : CtrOK Try.prog 141 (con_impl_highFirst fun _ => g_impl_highFirst) := (okp_impl_highFirst  ).nice e_impl_highFirst

def lp_impl_SumMore_2 : LP := ⟨[(0, false, [.int .u32]), (1, false, [.str]), (5, false, [.int .i64])], [], 0⟩
def lp_impl_SumMore_6 : LP := ⟨[(0, false, [.int .u32]), (1, false, [.str]), (5, false, [.int .i64]), (19, false, [.int .i64])], [], 0⟩
theorem okp_impl_SumMore : CtrOK Try.prog 155 (con_impl_SumMore (impl_SumMore_ )) :=
  fun_ok (c := Try.f155.body.getD .skip) (con_impl_SumMore (impl_SumMore_ )) (gOf []) [] [⟨2, lp_impl_SumMore_2, impl_SumMore_L2 ⟩, ⟨6, lp_impl_SumMore_6, impl_SumMore_L6 ⟩] rfl Try.func155 rfl rfl rfl (gOf_nil) (by kernel_rfl) [2, 6] 0 (by kernel_rfl) (by kernel_rfl)
    (fun x => .cons (⟨2, lp_impl_SumMore_2, impl_SumMore_L2 ⟩ : Lab (OKs [.v false [.int .u32]])) rfl rfl (by kernel_rfl) (by kernel_rfl) (.cons (⟨6, lp_impl_SumMore_6, impl_SumMore_L6 ⟩ : Lab (OKs [.v false [.int .u32]])) rfl rfl (by kernel_rfl) (by kernel_rfl) (.nil _)))
theorem ok_impl_SumMore : CtrOK Try.prog 155 (con_impl_SumMore fun _ => g_impl_SumMore) := (okp_impl_SumMore  ).nice e_impl_SumMore

theorem okp_impl_SumOf (impl_SumMore : Nat → Int × ByteArray → Option (Int)) (h155 : CtrOK Try.prog 155 (con_impl_SumMore impl_SumMore)) : CtrOK Try.prog 142 (con_impl_SumOf (impl_SumOf_ impl_SumMore )) :=
  fun_ok0 (c := Try.f142.body.getD .skip) (con_impl_SumOf (impl_SumOf_ impl_SumMore )) (gOf [(155, con_impl_SumMore impl_SumMore)]) rfl Try.func142 rfl rfl rfl (gOf_cons h155 (gOf_nil)) (by kernel_rfl) (by kernel_rfl)
theorem ok_impl_SumOf : CtrOK Try.prog 142 (con_impl_SumOf fun _ => g_impl_SumOf) := (okp_impl_SumOf _ ok_impl_SumMore).nice e_impl_SumOf

theorem okp_impl_Sealed (impl_SumOf : Nat → ByteArray → Option (Int)) (impl_highFirst : Nat → Int × Int → Option (ByteArray)) (h142 : CtrOK Try.prog 142 (con_impl_SumOf impl_SumOf)) (h141 : CtrOK Try.prog 141 (con_impl_highFirst impl_highFirst)) : CtrOK Try.prog 105 (con_impl_Sealed (impl_Sealed_ impl_SumOf impl_highFirst )) :=
  fun_ok0 (c := Try.f105.body.getD .skip) (con_impl_Sealed (impl_Sealed_ impl_SumOf impl_highFirst )) (gOf [(142, con_impl_SumOf impl_SumOf), (141, con_impl_highFirst impl_highFirst)]) rfl Try.func105 rfl rfl rfl (gOf_cons h142 (gOf_cons h141 (gOf_nil))) (by kernel_rfl) (by kernel_rfl)
theorem ok_impl_Sealed : CtrOK Try.prog 105 (con_impl_Sealed fun _ => g_impl_Sealed) := (okp_impl_Sealed _ _ ok_impl_SumOf ok_impl_highFirst).nice e_impl_Sealed

theorem okp_impl_Unsealed (impl_Sealed : Nat → ByteArray → Option (ByteArray × Bool)) (h105 : CtrOK Try.prog 105 (con_impl_Sealed impl_Sealed)) : CtrOK Try.prog 75 (con_impl_Unsealed (impl_Unsealed_ impl_Sealed )) :=
  fun_ok0 (c := Try.f75.body.getD .skip) (con_impl_Unsealed (impl_Unsealed_ impl_Sealed )) (gOf [(105, con_impl_Sealed impl_Sealed)]) rfl Try.func75 rfl rfl rfl (gOf_cons h105 (gOf_nil)) (by kernel_rfl) (by kernel_rfl)
theorem ok_impl_Unsealed : CtrOK Try.prog 75 (con_impl_Unsealed fun _ => g_impl_Unsealed) := (okp_impl_Unsealed _ ok_impl_Sealed).nice e_impl_Unsealed

theorem okp_impl_ReadOrder (impl_OrderOk : Nat → (Int × Int × Int × Int) → Option (Bool)) (impl_Unsealed : Nat → ByteArray → Option (ByteArray × Bool)) (impl_reader__number : Nat → (ByteArray × Int × Bool) → Option (Int × (ByteArray × Int × Bool))) (h35 : CtrOK Try.prog 35 (con_impl_OrderOk impl_OrderOk)) (h75 : CtrOK Try.prog 75 (con_impl_Unsealed impl_Unsealed)) (h76 : CtrOK Try.prog 76 (con_impl_reader__number impl_reader__number)) : CtrOK Try.prog 21 (con_impl_ReadOrder (impl_ReadOrder_ impl_OrderOk impl_Unsealed impl_reader__number )) :=
  fun_ok0 (c := Try.f21.body.getD .skip) (con_impl_ReadOrder (impl_ReadOrder_ impl_OrderOk impl_Unsealed impl_reader__number )) (gOf [(35, con_impl_OrderOk impl_OrderOk), (75, con_impl_Unsealed impl_Unsealed), (76, con_impl_reader__number impl_reader__number)]) rfl Try.func21 rfl rfl rfl (gOf_cons h35 (gOf_cons h75 (gOf_cons h76 (gOf_nil)))) (by kernel_rfl) (by kernel_rfl)
theorem ok_impl_ReadOrder : CtrOK Try.prog 21 (con_impl_ReadOrder fun _ => g_impl_ReadOrder) := (okp_impl_ReadOrder _ _ _ ok_impl_OrderOk ok_impl_Unsealed ok_impl_reader__number).nice e_impl_ReadOrder

theorem okp_laws_turned : CtrOK Try.prog 60 (con_laws_turned (laws_turned_ )) :=
  fun_ok0 (c := Try.f60.body.getD .skip) (con_laws_turned (laws_turned_ )) (gOf []) rfl Try.func60 rfl rfl rfl (gOf_nil) (by kernel_rfl) (by kernel_rfl)
theorem ok_laws_turned : CtrOK Try.prog 60 (con_laws_turned fun _ => g_laws_turned) := (okp_laws_turned  ).nice e_laws_turned

theorem okp_spec_l01Byte : CtrOK Try.prog 84 (con_spec_l01Byte (spec_l01Byte_ )) :=
  fun_ok0 (c := Try.f84.body.getD .skip) (con_spec_l01Byte (spec_l01Byte_ )) (gOf []) rfl Try.func84 rfl rfl rfl (gOf_nil) (by kernel_rfl) (by kernel_rfl)
theorem ok_spec_l01Byte : CtrOK Try.prog 84 (con_spec_l01Byte fun _ => g_spec_l01Byte) := (okp_spec_l01Byte  ).nice e_spec_l01Byte

theorem okp_spec_l01Below (spec_l01Byte : Nat → (List Int × Int × Int) → Option (Int × (Unit × Int × Int))) (h84 : CtrOK Try.prog 84 (con_spec_l01Byte spec_l01Byte)) : CtrOK Try.prog 85 (con_spec_l01Below (spec_l01Below_ spec_l01Byte )) :=
  fun_ok0 (c := Try.f85.body.getD .skip) (con_spec_l01Below (spec_l01Below_ spec_l01Byte )) (gOf [(84, con_spec_l01Byte spec_l01Byte)]) rfl Try.func85 rfl rfl rfl (gOf_cons h84 (gOf_nil)) (by kernel_rfl) (by kernel_rfl)
theorem ok_spec_l01Below : CtrOK Try.prog 85 (con_spec_l01Below fun _ => g_spec_l01Below) := (okp_spec_l01Below _ ok_spec_l01Byte).nice e_spec_l01Below

def lp_spec_l01New_3 : LP := ⟨[(0, false, [.sl 0]), (3, false, [.int .i64]), (4, false, [.int .i64])], [.ro (.int .u8) 0], 1⟩
theorem okp_spec_l01New : CtrOK Try.prog 83 (con_spec_l01New (spec_l01New_ )) :=
  fun_ok (c := Try.f83.body.getD .skip) (con_spec_l01New (spec_l01New_ )) (gOf []) [] [⟨3, lp_spec_l01New_3, spec_l01New_L3 ⟩] rfl Try.func83 rfl rfl rfl (gOf_nil) (by kernel_rfl) [3] 1 (by kernel_rfl) (by kernel_rfl)
    (fun x => .cons (⟨3, lp_spec_l01New_3, spec_l01New_L3 ⟩ : Lab (OKs [.box [.al 0 0, .int .i64, .int .i64] 155])) rfl rfl (by kernel_rfl) (by kernel_rfl) (.nil _))
theorem ok_spec_l01New : CtrOK Try.prog 83 (con_spec_l01New fun _ => g_spec_l01New) := (okp_spec_l01New  ).nice e_spec_l01New

def lp_spec_DrawPlaces_5 : LP := ⟨[(3, false, [.ptr 1 0]), (4, false, [.sl 2]), (5, false, [.int .i64])], [.ro (.int .u8) 0, .box [.sl 0, .int .i64, .int .i64] 155, .row (.int .i64) 3], 1⟩
theorem okp_spec_DrawPlaces (spec_l01Below : Nat → (List Int × Int × Int) × Int → Option (Int × (Unit × Int × Int))) (spec_l01Byte : Nat → (List Int × Int × Int) → Option (Int × (Unit × Int × Int))) (spec_l01New : Nat → List Int → Option ((Unit × Int × Int))) (h85 : CtrOK Try.prog 85 (con_spec_l01Below spec_l01Below)) (h84 : CtrOK Try.prog 84 (con_spec_l01Byte spec_l01Byte)) (h83 : CtrOK Try.prog 83 (con_spec_l01New spec_l01New)) : CtrOK Try.prog 34 (con_spec_DrawPlaces (spec_DrawPlaces_ spec_l01Below spec_l01Byte spec_l01New )) :=
  fun_ok (c := Try.f34.body.getD .skip) (con_spec_DrawPlaces (spec_DrawPlaces_ spec_l01Below spec_l01Byte spec_l01New )) (gOf [(85, con_spec_l01Below spec_l01Below), (84, con_spec_l01Byte spec_l01Byte), (83, con_spec_l01New spec_l01New)]) [] [⟨5, lp_spec_DrawPlaces_5, spec_DrawPlaces_L5 spec_l01Below spec_l01Byte spec_l01New ⟩] rfl Try.func34 rfl rfl rfl (gOf_cons h85 (gOf_cons h84 (gOf_cons h83 (gOf_nil)))) (by kernel_rfl) [5] 1 (by kernel_rfl) (by kernel_rfl)
    (fun x => .cons (⟨5, lp_spec_DrawPlaces_5, spec_DrawPlaces_L5 spec_l01Below spec_l01Byte spec_l01New ⟩ : Lab (OKs [.v false [.own (.int .i64) 3]])) rfl rfl (by kernel_rfl) (by kernel_rfl) (.nil _))
theorem ok_spec_DrawPlaces : CtrOK Try.prog 34 (con_spec_DrawPlaces fun _ => g_spec_DrawPlaces) := (okp_spec_DrawPlaces _ _ _ ok_spec_l01Below ok_spec_l01Byte ok_spec_l01New).nice e_spec_DrawPlaces

def lp_impl_VarText_4 : LP := ⟨[(0, false, [.int .i64]), (4, false, [.sl 0])], [.row (.int .u8) 5], 0⟩
theorem okp_impl_VarText (impl_within : Nat → Int × Int × Int → Option (Bool)) (h81 : CtrOK Try.prog 81 (con_impl_within impl_within)) : CtrOK Try.prog 143 (con_impl_VarText (impl_VarText_ impl_within )) :=
  fun_ok (c := Try.f143.body.getD .skip) (con_impl_VarText (impl_VarText_ impl_within )) (gOf [(81, con_impl_within impl_within)]) [] [⟨4, lp_impl_VarText_4, impl_VarText_L4 impl_within ⟩] rfl Try.func143 rfl rfl rfl (gOf_cons h81 (gOf_nil)) (by kernel_rfl) [4] 0 (by kernel_rfl) (by kernel_rfl)
    (fun x => .cons (⟨4, lp_impl_VarText_4, impl_VarText_L4 impl_within ⟩ : Lab (OKs [.v false [.str], .v false [.bool]])) rfl rfl (by kernel_rfl) (by kernel_rfl) (.nil _))
theorem ok_impl_VarText : CtrOK Try.prog 143 (con_impl_VarText fun _ => g_impl_VarText) := (okp_impl_VarText _ ok_impl_within).nice e_impl_VarText

def lp_impl_numbers_3 : LP := ⟨[(3, false, [.str]), (8, false, [.sl 0]), (9, false, [.int .i64]), (10, false, [.int .i64])], [.ro (.int .i64) 0], 1⟩
theorem okp_impl_numbers (impl_VarText : Nat → Int → Option (ByteArray × Bool)) (h143 : CtrOK Try.prog 143 (con_impl_VarText impl_VarText)) : CtrOK Try.prog 106 (con_impl_numbers (impl_numbers_ impl_VarText )) :=
  fun_ok (c := Try.f106.body.getD .skip) (con_impl_numbers (impl_numbers_ impl_VarText )) (gOf [(143, con_impl_VarText impl_VarText)]) [] [⟨3, lp_impl_numbers_3, impl_numbers_L3 impl_VarText ⟩] rfl Try.func106 rfl rfl rfl (gOf_cons h143 (gOf_nil)) (by kernel_rfl) [3] 1 (by kernel_rfl) (by kernel_rfl)
    (fun x => .cons (⟨3, lp_impl_numbers_3, impl_numbers_L3 impl_VarText ⟩ : Lab (OKs [.v false [.str]])) rfl rfl (by kernel_rfl) (by kernel_rfl) (.nil _))
theorem ok_impl_numbers : CtrOK Try.prog 106 (con_impl_numbers fun _ => g_impl_numbers) := (okp_impl_numbers _ ok_impl_VarText).nice e_impl_numbers

theorem okp_impl_OrderText (impl_OrderOk : Nat → (Int × Int × Int × Int) → Option (Bool)) (impl_Sealed : Nat → ByteArray → Option (ByteArray × Bool)) (impl_numbers : Nat → List Int → Option (ByteArray)) (h35 : CtrOK Try.prog 35 (con_impl_OrderOk impl_OrderOk)) (h105 : CtrOK Try.prog 105 (con_impl_Sealed impl_Sealed)) (h106 : CtrOK Try.prog 106 (con_impl_numbers impl_numbers)) : CtrOK Try.prog 57 (con_impl_OrderText (impl_OrderText_ impl_OrderOk impl_Sealed impl_numbers )) :=
  fun_ok0 (c := Try.f57.body.getD .skip) (con_impl_OrderText (impl_OrderText_ impl_OrderOk impl_Sealed impl_numbers )) (gOf [(35, con_impl_OrderOk impl_OrderOk), (105, con_impl_Sealed impl_Sealed), (106, con_impl_numbers impl_numbers)]) rfl Try.func57 rfl rfl rfl (gOf_cons h35 (gOf_cons h105 (gOf_cons h106 (gOf_nil)))) (by kernel_rfl) (by kernel_rfl)
theorem ok_impl_OrderText : CtrOK Try.prog 57 (con_impl_OrderText fun _ => g_impl_OrderText) := (okp_impl_OrderText _ _ _ ok_impl_OrderOk ok_impl_Sealed ok_impl_numbers).nice e_impl_OrderText

theorem okp_spec_l02Four : CtrOK Try.prog 123 (con_spec_l02Four (spec_l02Four_ )) :=
  fun_ok0 (c := Try.f123.body.getD .skip) (con_spec_l02Four (spec_l02Four_ )) (gOf []) rfl Try.func123 rfl rfl rfl (gOf_nil) (by kernel_rfl) (by kernel_rfl)
theorem ok_spec_l02Four : CtrOK Try.prog 123 (con_spec_l02Four fun _ => g_spec_l02Four) := (okp_spec_l02Four  ).nice e_spec_l02Four

def lp_spec_SumMore_2 : LP := ⟨[(0, false, [.int .u32]), (1, false, [.str]), (5, false, [.int .i64])], [], 0⟩
def lp_spec_SumMore_6 : LP := ⟨[(0, false, [.int .u32]), (1, false, [.str]), (5, false, [.int .i64]), (6, false, [.int .i64])], [], 0⟩
theorem okp_spec_SumMore : CtrOK Try.prog 154 (con_spec_SumMore (spec_SumMore_ )) :=
  fun_ok (c := Try.f154.body.getD .skip) (con_spec_SumMore (spec_SumMore_ )) (gOf []) [] [⟨2, lp_spec_SumMore_2, spec_SumMore_L2 ⟩, ⟨6, lp_spec_SumMore_6, spec_SumMore_L6 ⟩] rfl Try.func154 rfl rfl rfl (gOf_nil) (by kernel_rfl) [2, 6] 0 (by kernel_rfl) (by kernel_rfl)
    (fun x => .cons (⟨2, lp_spec_SumMore_2, spec_SumMore_L2 ⟩ : Lab (OKs [.v false [.int .u32]])) rfl rfl (by kernel_rfl) (by kernel_rfl) (.cons (⟨6, lp_spec_SumMore_6, spec_SumMore_L6 ⟩ : Lab (OKs [.v false [.int .u32]])) rfl rfl (by kernel_rfl) (by kernel_rfl) (.nil _)))
theorem ok_spec_SumMore : CtrOK Try.prog 154 (con_spec_SumMore fun _ => g_spec_SumMore) := (okp_spec_SumMore  ).nice e_spec_SumMore

theorem okp_spec_SumOf (spec_SumMore : Nat → Int × ByteArray → Option (Int)) (h154 : CtrOK Try.prog 154 (con_spec_SumMore spec_SumMore)) : CtrOK Try.prog 124 (con_spec_SumOf (spec_SumOf_ spec_SumMore )) :=
  fun_ok0 (c := Try.f124.body.getD .skip) (con_spec_SumOf (spec_SumOf_ spec_SumMore )) (gOf [(154, con_spec_SumMore spec_SumMore)]) rfl Try.func124 rfl rfl rfl (gOf_cons h154 (gOf_nil)) (by kernel_rfl) (by kernel_rfl)
theorem ok_spec_SumOf : CtrOK Try.prog 124 (con_spec_SumOf fun _ => g_spec_SumOf) := (okp_spec_SumOf _ ok_spec_SumMore).nice e_spec_SumOf

theorem okp_spec_Sealed (spec_SumOf : Nat → ByteArray → Option (Int)) (spec_l02Four : Nat → Int → Option (ByteArray)) (h124 : CtrOK Try.prog 124 (con_spec_SumOf spec_SumOf)) (h123 : CtrOK Try.prog 123 (con_spec_l02Four spec_l02Four)) : CtrOK Try.prog 108 (con_spec_Sealed (spec_Sealed_ spec_SumOf spec_l02Four )) :=
  fun_ok0 (c := Try.f108.body.getD .skip) (con_spec_Sealed (spec_Sealed_ spec_SumOf spec_l02Four )) (gOf [(124, con_spec_SumOf spec_SumOf), (123, con_spec_l02Four spec_l02Four)]) rfl Try.func108 rfl rfl rfl (gOf_cons h124 (gOf_cons h123 (gOf_nil))) (by kernel_rfl) (by kernel_rfl)
theorem ok_spec_Sealed : CtrOK Try.prog 108 (con_spec_Sealed fun _ => g_spec_Sealed) := (okp_spec_Sealed _ _ ok_spec_SumOf ok_spec_l02Four).nice e_spec_Sealed

def lp_spec_l01Var_2 : LP := ⟨[(0, false, [.int .i64]), (3, false, [.sl 0])], [.row (.int .u8) 5], 0⟩
theorem okp_spec_l01Var : CtrOK Try.prog 126 (con_spec_l01Var (spec_l01Var_ )) :=
  fun_ok (c := Try.f126.body.getD .skip) (con_spec_l01Var (spec_l01Var_ )) (gOf []) [] [⟨2, lp_spec_l01Var_2, spec_l01Var_L2 ⟩] rfl Try.func126 rfl rfl rfl (gOf_nil) (by kernel_rfl) [2] 0 (by kernel_rfl) (by kernel_rfl)
    (fun x => .cons (⟨2, lp_spec_l01Var_2, spec_l01Var_L2 ⟩ : Lab (OKs [.v false [.str]])) rfl rfl (by kernel_rfl) (by kernel_rfl) (.nil _))
theorem ok_spec_l01Var : CtrOK Try.prog 126 (con_spec_l01Var fun _ => g_spec_l01Var) := (okp_spec_l01Var  ).nice e_spec_l01Var

theorem okp_spec_l01In : CtrOK Try.prog 88 (con_spec_l01In (spec_l01In_ )) :=
  fun_ok0 (c := Try.f88.body.getD .skip) (con_spec_l01In (spec_l01In_ )) (gOf []) rfl Try.func88 rfl rfl rfl (gOf_nil) (by kernel_rfl) (by kernel_rfl)
theorem ok_spec_l01In : CtrOK Try.prog 88 (con_spec_l01In fun _ => g_spec_l01In) := (okp_spec_l01In  ).nice e_spec_l01In

theorem okp_spec_OrderOk (spec_l01In : Nat → Int × Int × Int → Option (Bool)) (h88 : CtrOK Try.prog 88 (con_spec_l01In spec_l01In)) : CtrOK Try.prog 58 (con_spec_OrderOk (spec_OrderOk_ spec_l01In )) :=
  fun_ok0 (c := Try.f58.body.getD .skip) (con_spec_OrderOk (spec_OrderOk_ spec_l01In )) (gOf [(88, con_spec_l01In spec_l01In)]) rfl Try.func58 rfl rfl rfl (gOf_cons h88 (gOf_nil)) (by kernel_rfl) (by kernel_rfl)
theorem ok_spec_OrderOk : CtrOK Try.prog 58 (con_spec_OrderOk fun _ => g_spec_OrderOk) := (okp_spec_OrderOk _ ok_spec_l01In).nice e_spec_OrderOk

theorem okp_spec_OrderText (spec_OrderOk : Nat → (Int × Int × Int × Int) → Option (Bool)) (spec_Sealed : Nat → ByteArray → Option (ByteArray × Bool)) (spec_l01Var : Nat → Int → Option (ByteArray)) (h58 : CtrOK Try.prog 58 (con_spec_OrderOk spec_OrderOk)) (h108 : CtrOK Try.prog 108 (con_spec_Sealed spec_Sealed)) (h126 : CtrOK Try.prog 126 (con_spec_l01Var spec_l01Var)) : CtrOK Try.prog 74 (con_spec_OrderText (spec_OrderText_ spec_OrderOk spec_Sealed spec_l01Var )) :=
  fun_ok0 (c := Try.f74.body.getD .skip) (con_spec_OrderText (spec_OrderText_ spec_OrderOk spec_Sealed spec_l01Var )) (gOf [(58, con_spec_OrderOk spec_OrderOk), (108, con_spec_Sealed spec_Sealed), (126, con_spec_l01Var spec_l01Var)]) rfl Try.func74 rfl rfl rfl (gOf_cons h58 (gOf_cons h108 (gOf_cons h126 (gOf_nil)))) (by kernel_rfl) (by kernel_rfl)
theorem ok_spec_OrderText : CtrOK Try.prog 74 (con_spec_OrderText fun _ => g_spec_OrderText) := (okp_spec_OrderText _ _ _ ok_spec_OrderOk ok_spec_Sealed ok_spec_l01Var).nice e_spec_OrderText

def lp_spec_ReadVar_6 : LP := ⟨[(0, false, [.str]), (1, false, [.int .i64]), (7, false, [.int .i64]), (8, false, [.int .i64]), (9, false, [.int .i64])], [], 0⟩
theorem okp_spec_ReadVar (spec_l01In : Nat → Int × Int × Int → Option (Bool)) (spec_l01Var : Nat → Int → Option (ByteArray)) (h88 : CtrOK Try.prog 88 (con_spec_l01In spec_l01In)) (h126 : CtrOK Try.prog 126 (con_spec_l01Var spec_l01Var)) : CtrOK Try.prog 125 (con_spec_ReadVar (spec_ReadVar_ spec_l01In spec_l01Var )) :=
  fun_ok (c := Try.f125.body.getD .skip) (con_spec_ReadVar (spec_ReadVar_ spec_l01In spec_l01Var )) (gOf [(88, con_spec_l01In spec_l01In), (126, con_spec_l01Var spec_l01Var)]) [] [⟨6, lp_spec_ReadVar_6, spec_ReadVar_L6 spec_l01In spec_l01Var ⟩] rfl Try.func125 rfl rfl rfl (gOf_cons h88 (gOf_cons h126 (gOf_nil))) (by kernel_rfl) [6] 0 (by kernel_rfl) (by kernel_rfl)
    (fun x => .cons (⟨6, lp_spec_ReadVar_6, spec_ReadVar_L6 spec_l01In spec_l01Var ⟩ : Lab (OKs [.v false [.int .i64], .v false [.int .i64], .v false [.bool]])) rfl rfl (by kernel_rfl) (by kernel_rfl) (.nil _))
theorem ok_spec_ReadVar : CtrOK Try.prog 125 (con_spec_ReadVar fun _ => g_spec_ReadVar) := (okp_spec_ReadVar _ _ ok_spec_l01In ok_spec_l01Var).nice e_spec_ReadVar

theorem okp_spec_l11Var (spec_ReadVar : Nat → ByteArray × Int → Option (Int × Int × Bool)) (h125 : CtrOK Try.prog 125 (con_spec_ReadVar spec_ReadVar)) : CtrOK Try.prog 73 (con_spec_l11Var (spec_l11Var_ spec_ReadVar )) :=
  fun_ok0 (c := Try.f73.body.getD .skip) (con_spec_l11Var (spec_l11Var_ spec_ReadVar )) (gOf [(125, con_spec_ReadVar spec_ReadVar)]) rfl Try.func73 rfl rfl rfl (gOf_cons h125 (gOf_nil)) (by kernel_rfl) (by kernel_rfl)
theorem ok_spec_l11Var : CtrOK Try.prog 73 (con_spec_l11Var fun _ => g_spec_l11Var) := (okp_spec_l11Var _ ok_spec_ReadVar).nice e_spec_l11Var

theorem okp_spec_Unsealed (spec_SumOf : Nat → ByteArray → Option (Int)) (spec_l02Four : Nat → Int → Option (ByteArray)) (h124 : CtrOK Try.prog 124 (con_spec_SumOf spec_SumOf)) (h123 : CtrOK Try.prog 123 (con_spec_l02Four spec_l02Four)) : CtrOK Try.prog 72 (con_spec_Unsealed (spec_Unsealed_ spec_SumOf spec_l02Four )) :=
  fun_ok0 (c := Try.f72.body.getD .skip) (con_spec_Unsealed (spec_Unsealed_ spec_SumOf spec_l02Four )) (gOf [(124, con_spec_SumOf spec_SumOf), (123, con_spec_l02Four spec_l02Four)]) rfl Try.func72 rfl rfl rfl (gOf_cons h124 (gOf_cons h123 (gOf_nil))) (by kernel_rfl) (by kernel_rfl)
theorem ok_spec_Unsealed : CtrOK Try.prog 72 (con_spec_Unsealed fun _ => g_spec_Unsealed) := (okp_spec_Unsealed _ _ ok_spec_SumOf ok_spec_l02Four).nice e_spec_Unsealed

theorem okp_spec_ReadOrder (spec_OrderText : Nat → (Int × Int × Int × Int) → Option (ByteArray × Bool)) (spec_Unsealed : Nat → ByteArray → Option (ByteArray × Bool)) (spec_l11Var : Nat → (ByteArray × Int × Bool) → Option (Int × (ByteArray × Int × Bool))) (h74 : CtrOK Try.prog 74 (con_spec_OrderText spec_OrderText)) (h72 : CtrOK Try.prog 72 (con_spec_Unsealed spec_Unsealed)) (h73 : CtrOK Try.prog 73 (con_spec_l11Var spec_l11Var)) : CtrOK Try.prog 20 (con_spec_ReadOrder (spec_ReadOrder_ spec_OrderText spec_Unsealed spec_l11Var )) :=
  fun_ok0 (c := Try.f20.body.getD .skip) (con_spec_ReadOrder (spec_ReadOrder_ spec_OrderText spec_Unsealed spec_l11Var )) (gOf [(74, con_spec_OrderText spec_OrderText), (72, con_spec_Unsealed spec_Unsealed), (73, con_spec_l11Var spec_l11Var)]) rfl Try.func20 rfl rfl rfl (gOf_cons h74 (gOf_cons h72 (gOf_cons h73 (gOf_nil)))) (by kernel_rfl) (by kernel_rfl)
theorem ok_spec_ReadOrder : CtrOK Try.prog 20 (con_spec_ReadOrder fun _ => g_spec_ReadOrder) := (okp_spec_ReadOrder _ _ _ ok_spec_OrderText ok_spec_Unsealed ok_spec_l11Var).nice e_spec_ReadOrder

def lp_spec_l01Text_5 : LP := ⟨[(0, false, [.ptr 0 0]), (1, false, [.int .i64]), (5, false, [.sl 2]), (6, false, [.int .i64])], [.box [.sl 1, .int .i64, .int .i64] 155, .ro (.int .u8) 0, .row (.int .u8) 5], 2⟩
theorem okp_spec_l01Text (spec_l01Byte : Nat → (List Int × Int × Int) → Option (Int × (Unit × Int × Int))) (h84 : CtrOK Try.prog 84 (con_spec_l01Byte spec_l01Byte)) : CtrOK Try.prog 144 (con_spec_l01Text (spec_l01Text_ spec_l01Byte )) :=
  fun_ok (c := Try.f144.body.getD .skip) (con_spec_l01Text (spec_l01Text_ spec_l01Byte )) (gOf [(84, con_spec_l01Byte spec_l01Byte)]) [] [⟨5, lp_spec_l01Text_5, spec_l01Text_L5 spec_l01Byte ⟩] rfl Try.func144 rfl rfl rfl (gOf_cons h84 (gOf_nil)) (by kernel_rfl) [5] 2 (by kernel_rfl) (by kernel_rfl)
    (fun x => .cons (⟨5, lp_spec_l01Text_5, spec_l01Text_L5 spec_l01Byte ⟩ : Lab (OKs [.v false [.str], .box [.keep, .int .i64, .int .i64] 155])) rfl rfl (by kernel_rfl) (by kernel_rfl) (.nil _))
theorem ok_spec_l01Text : CtrOK Try.prog 144 (con_spec_l01Text fun _ => g_spec_l01Text) := (okp_spec_l01Text _ ok_spec_l01Byte).nice e_spec_l01Text

theorem okp_spec_l02Spoilt (spec_l01Below : Nat → (List Int × Int × Int) × Int → Option (Int × (Unit × Int × Int))) (spec_l01Text : Nat → (List Int × Int × Int) × Int → Option (ByteArray × (Unit × Int × Int))) (h85 : CtrOK Try.prog 85 (con_spec_l01Below spec_l01Below)) (h144 : CtrOK Try.prog 144 (con_spec_l01Text spec_l01Text)) : CtrOK Try.prog 109 (con_spec_l02Spoilt (spec_l02Spoilt_ spec_l01Below spec_l01Text )) :=
  fun_ok0 (c := Try.f109.body.getD .skip) (con_spec_l02Spoilt (spec_l02Spoilt_ spec_l01Below spec_l01Text )) (gOf [(85, con_spec_l01Below spec_l01Below), (144, con_spec_l01Text spec_l01Text)]) rfl Try.func109 rfl rfl rfl (gOf_cons h85 (gOf_cons h144 (gOf_nil))) (by kernel_rfl) (by kernel_rfl)
theorem ok_spec_l02Spoilt : CtrOK Try.prog 109 (con_spec_l02Spoilt fun _ => g_spec_l02Spoilt) := (okp_spec_l02Spoilt _ _ ok_spec_l01Below ok_spec_l01Text).nice e_spec_l02Spoilt

theorem okp_spec_l01Once (spec_l01Below : Nat → (List Int × Int × Int) × Int → Option (Int × (Unit × Int × Int))) (h85 : CtrOK Try.prog 85 (con_spec_l01Below spec_l01Below)) : CtrOK Try.prog 107 (con_spec_l01Once (spec_l01Once_ spec_l01Below )) :=
  fun_ok0 (c := Try.f107.body.getD .skip) (con_spec_l01Once (spec_l01Once_ spec_l01Below )) (gOf [(85, con_spec_l01Below spec_l01Below)]) rfl Try.func107 rfl rfl rfl (gOf_cons h85 (gOf_nil)) (by kernel_rfl) (by kernel_rfl)
theorem ok_spec_l01Once : CtrOK Try.prog 107 (con_spec_l01Once fun _ => g_spec_l01Once) := (okp_spec_l01Once _ ok_spec_l01Below).nice e_spec_l01Once

theorem okp_spec_l01PickInt (spec_l01Below : Nat → (List Int × Int × Int) × Int → Option (Int × (Unit × Int × Int))) (h85 : CtrOK Try.prog 85 (con_spec_l01Below spec_l01Below)) : CtrOK Try.prog 87 (con_spec_l01PickInt (spec_l01PickInt_ spec_l01Below )) :=
  fun_ok0 (c := Try.f87.body.getD .skip) (con_spec_l01PickInt (spec_l01PickInt_ spec_l01Below )) (gOf [(85, con_spec_l01Below spec_l01Below)]) rfl Try.func87 rfl rfl rfl (gOf_cons h85 (gOf_nil)) (by kernel_rfl) (by kernel_rfl)
theorem ok_spec_l01PickInt : CtrOK Try.prog 87 (con_spec_l01PickInt fun _ => g_spec_l01PickInt) := (okp_spec_l01PickInt _ ok_spec_l01Below).nice e_spec_l01PickInt

theorem okp_spec_l14Order (spec_l01Below : Nat → (List Int × Int × Int) × Int → Option (Int × (Unit × Int × Int))) (spec_l01PickInt : Nat → (List Int × Int × Int) × List Int → Option (Int × (Unit × Int × Int))) (h85 : CtrOK Try.prog 85 (con_spec_l01Below spec_l01Below)) (h87 : CtrOK Try.prog 87 (con_spec_l01PickInt spec_l01PickInt)) : CtrOK Try.prog 130 (con_spec_l14Order (spec_l14Order_ spec_l01Below spec_l01PickInt )) :=
  fun_ok0 (c := Try.f130.body.getD .skip) (con_spec_l14Order (spec_l14Order_ spec_l01Below spec_l01PickInt )) (gOf [(85, con_spec_l01Below spec_l01Below), (87, con_spec_l01PickInt spec_l01PickInt)]) rfl Try.func130 rfl rfl rfl (gOf_cons h85 (gOf_cons h87 (gOf_nil))) (by kernel_rfl) (by kernel_rfl)
theorem ok_spec_l14Order : CtrOK Try.prog 130 (con_spec_l14Order fun _ => g_spec_l14Order) := (okp_spec_l14Order _ _ ok_spec_l01Below ok_spec_l01PickInt).nice e_spec_l14Order

theorem okp_spec_l14Any (spec_l01Below : Nat → (List Int × Int × Int) × Int → Option (Int × (Unit × Int × Int))) (spec_l01PickInt : Nat → (List Int × Int × Int) × List Int → Option (Int × (Unit × Int × Int))) (spec_l14Order : Nat → (List Int × Int × Int) → Option ((Int × Int × Int × Int) × (Unit × Int × Int))) (h85 : CtrOK Try.prog 85 (con_spec_l01Below spec_l01Below)) (h87 : CtrOK Try.prog 87 (con_spec_l01PickInt spec_l01PickInt)) (h130 : CtrOK Try.prog 130 (con_spec_l14Order spec_l14Order)) : CtrOK Try.prog 101 (con_spec_l14Any (spec_l14Any_ spec_l01Below spec_l01PickInt spec_l14Order )) :=
  fun_ok0 (c := Try.f101.body.getD .skip) (con_spec_l14Any (spec_l14Any_ spec_l01Below spec_l01PickInt spec_l14Order )) (gOf [(85, con_spec_l01Below spec_l01Below), (87, con_spec_l01PickInt spec_l01PickInt), (130, con_spec_l14Order spec_l14Order)]) rfl Try.func101 rfl rfl rfl (gOf_cons h85 (gOf_cons h87 (gOf_cons h130 (gOf_nil)))) (by kernel_rfl) (by kernel_rfl)
theorem ok_spec_l14Any : CtrOK Try.prog 101 (con_spec_l14Any fun _ => g_spec_l14Any) := (okp_spec_l14Any _ _ _ ok_spec_l01Below ok_spec_l01PickInt ok_spec_l14Order).nice e_spec_l14Any

theorem okp_spec_DrawReadOrder (spec_OrderText : Nat → (Int × Int × Int × Int) → Option (ByteArray × Bool)) (spec_Sealed : Nat → ByteArray → Option (ByteArray × Bool)) (spec_Unsealed : Nat → ByteArray → Option (ByteArray × Bool)) (spec_l01New : Nat → List Int → Option ((Unit × Int × Int))) (spec_l01Once : Nat → (List Int × Int × Int) × Int → Option (Bool × (Unit × Int × Int))) (spec_l02Spoilt : Nat → (List Int × Int × Int) × ByteArray → Option (ByteArray × (Unit × Int × Int))) (spec_l14Any : Nat → (List Int × Int × Int) → Option ((Int × Int × Int × Int) × (Unit × Int × Int))) (h74 : CtrOK Try.prog 74 (con_spec_OrderText spec_OrderText)) (h108 : CtrOK Try.prog 108 (con_spec_Sealed spec_Sealed)) (h72 : CtrOK Try.prog 72 (con_spec_Unsealed spec_Unsealed)) (h83 : CtrOK Try.prog 83 (con_spec_l01New spec_l01New)) (h107 : CtrOK Try.prog 107 (con_spec_l01Once spec_l01Once)) (h109 : CtrOK Try.prog 109 (con_spec_l02Spoilt spec_l02Spoilt)) (h101 : CtrOK Try.prog 101 (con_spec_l14Any spec_l14Any)) : CtrOK Try.prog 59 (con_spec_DrawReadOrder (spec_DrawReadOrder_ spec_OrderText spec_Sealed spec_Unsealed spec_l01New spec_l01Once spec_l02Spoilt spec_l14Any )) :=
  fun_ok0 (c := Try.f59.body.getD .skip) (con_spec_DrawReadOrder (spec_DrawReadOrder_ spec_OrderText spec_Sealed spec_Unsealed spec_l01New spec_l01Once spec_l02Spoilt spec_l14Any )) (gOf [(74, con_spec_OrderText spec_OrderText), (108, con_spec_Sealed spec_Sealed), (72, con_spec_Unsealed spec_Unsealed), (83, con_spec_l01New spec_l01New), (107, con_spec_l01Once spec_l01Once), (109, con_spec_l02Spoilt spec_l02Spoilt), (101, con_spec_l14Any spec_l14Any)]) rfl Try.func59 rfl rfl rfl (gOf_cons h74 (gOf_cons h108 (gOf_cons h72 (gOf_cons h83 (gOf_cons h107 (gOf_cons h109 (gOf_cons h101 (gOf_nil)))))))) (by kernel_rfl) (by kernel_rfl)
theorem ok_spec_DrawReadOrder : CtrOK Try.prog 59 (con_spec_DrawReadOrder fun _ => g_spec_DrawReadOrder) := (okp_spec_DrawReadOrder _ _ _ _ _ _ _ ok_spec_OrderText ok_spec_Sealed ok_spec_Unsealed ok_spec_l01New ok_spec_l01Once ok_spec_l02Spoilt ok_spec_l14Any).nice e_spec_DrawReadOrder

theorem okp_spec_DrawOrderText (spec_l01New : Nat → List Int → Option ((Unit × Int × Int))) (spec_l14Any : Nat → (List Int × Int × Int) → Option ((Int × Int × Int × Int) × (Unit × Int × Int))) (h83 : CtrOK Try.prog 83 (con_spec_l01New spec_l01New)) (h101 : CtrOK Try.prog 101 (con_spec_l14Any spec_l14Any)) : CtrOK Try.prog 56 (con_spec_DrawOrderText (spec_DrawOrderText_ spec_l01New spec_l14Any )) :=
  fun_ok0 (c := Try.f56.body.getD .skip) (con_spec_DrawOrderText (spec_DrawOrderText_ spec_l01New spec_l14Any )) (gOf [(83, con_spec_l01New spec_l01New), (101, con_spec_l14Any spec_l14Any)]) rfl Try.func56 rfl rfl rfl (gOf_cons h83 (gOf_cons h101 (gOf_nil))) (by kernel_rfl) (by kernel_rfl)
theorem ok_spec_DrawOrderText : CtrOK Try.prog 56 (con_spec_DrawOrderText fun _ => g_spec_DrawOrderText) := (okp_spec_DrawOrderText _ _ ok_spec_l01New ok_spec_l14Any).nice e_spec_DrawOrderText

theorem okp_laws_big : CtrOK Try.prog 28 (con_laws_big (laws_big_ )) :=
  fun_ok0 (c := Try.f28.body.getD .skip) (con_laws_big (laws_big_ )) (gOf []) rfl Try.func28 rfl rfl rfl (gOf_nil) (by kernel_rfl) (by kernel_rfl)
theorem ok_laws_big : CtrOK Try.prog 28 (con_laws_big fun _ => g_laws_big) := (okp_laws_big  ).nice e_laws_big

theorem okp_laws_FnOrders (impl_OrderOk : Nat → (Int × Int × Int × Int) → Option (Bool)) (impl_OrderText : Nat → (Int × Int × Int × Int) → Option (ByteArray × Bool)) (impl_ReadOrder : Nat → ByteArray → Option ((Int × Int × Int × Int) × Bool)) (laws_big : Nat → List Int → Option (Bool)) (laws_turned : Nat → ByteArray × List Int → Option (ByteArray)) (spec_DrawOrderText : Nat → List Int → Option ((Int × Int × Int × Int))) (spec_DrawPlaces : Nat → List Int → Option (List Int)) (spec_DrawReadOrder : Nat → List Int → Option (ByteArray)) (spec_OrderOk : Nat → (Int × Int × Int × Int) → Option (Bool)) (spec_ReadOrder : Nat → ByteArray → Option ((Int × Int × Int × Int) × Bool)) (h35 : CtrOK Try.prog 35 (con_impl_OrderOk impl_OrderOk)) (h57 : CtrOK Try.prog 57 (con_impl_OrderText impl_OrderText)) (h21 : CtrOK Try.prog 21 (con_impl_ReadOrder impl_ReadOrder)) (h28 : CtrOK Try.prog 28 (con_laws_big laws_big)) (h60 : CtrOK Try.prog 60 (con_laws_turned laws_turned)) (h56 : CtrOK Try.prog 56 (con_spec_DrawOrderText spec_DrawOrderText)) (h34 : CtrOK Try.prog 34 (con_spec_DrawPlaces spec_DrawPlaces)) (h59 : CtrOK Try.prog 59 (con_spec_DrawReadOrder spec_DrawReadOrder)) (h58 : CtrOK Try.prog 58 (con_spec_OrderOk spec_OrderOk)) (h20 : CtrOK Try.prog 20 (con_spec_ReadOrder spec_ReadOrder)) : CtrOK Try.prog 12 (con_laws_FnOrders (laws_FnOrders_ impl_OrderOk impl_OrderText impl_ReadOrder laws_big laws_turned spec_DrawOrderText spec_DrawPlaces spec_DrawReadOrder spec_OrderOk spec_ReadOrder )) :=
  fun_ok0 (c := Try.f12.body.getD .skip) (con_laws_FnOrders (laws_FnOrders_ impl_OrderOk impl_OrderText impl_ReadOrder laws_big laws_turned spec_DrawOrderText spec_DrawPlaces spec_DrawReadOrder spec_OrderOk spec_ReadOrder )) (gOf [(35, con_impl_OrderOk impl_OrderOk), (57, con_impl_OrderText impl_OrderText), (21, con_impl_ReadOrder impl_ReadOrder), (28, con_laws_big laws_big), (60, con_laws_turned laws_turned), (56, con_spec_DrawOrderText spec_DrawOrderText), (34, con_spec_DrawPlaces spec_DrawPlaces), (59, con_spec_DrawReadOrder spec_DrawReadOrder), (58, con_spec_OrderOk spec_OrderOk), (20, con_spec_ReadOrder spec_ReadOrder)]) rfl Try.func12 rfl rfl rfl (gOf_cons h35 (gOf_cons h57 (gOf_cons h21 (gOf_cons h28 (gOf_cons h60 (gOf_cons h56 (gOf_cons h34 (gOf_cons h59 (gOf_cons h58 (gOf_cons h20 (gOf_nil))))))))))) (by kernel_rfl) (by kernel_rfl)
theorem ok_laws_FnOrders : CtrOK Try.prog 12 (con_laws_FnOrders fun _ => g_laws_FnOrders) := (okp_laws_FnOrders _ _ _ _ _ _ _ _ _ _ ok_impl_OrderOk ok_impl_OrderText ok_impl_ReadOrder ok_laws_big ok_laws_turned ok_spec_DrawOrderText ok_spec_DrawPlaces ok_spec_DrawReadOrder ok_spec_OrderOk ok_spec_ReadOrder).nice e_laws_FnOrders

end Go.Sx.T
