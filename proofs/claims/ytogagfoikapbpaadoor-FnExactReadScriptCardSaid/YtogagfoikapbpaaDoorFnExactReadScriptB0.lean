/- Functions of the program as functions of Lean, and that the program keeps to them. -/
import Derived.Test.YtogagfoikapbpaaDoorFnExactReadScriptA0
import Derived.Test.YtogagfoikapbpaaDoorProg
import Derived.Test.YtogagfoikapbpaaDoorLib
set_option maxRecDepth 100000
set_option linter.unusedVariables false
set_option linter.unusedSimpArgs false
namespace Go.Proofs
end Go.Proofs
namespace Go.Sx.T
open Go Go.Sx Go.Proofs Go.RowKit
theorem okp_strings_Split : True := trivial
theorem ok_strings_Split : CtrOK Tryd.prog 23 (con_strings_Split fun _ => g_strings_Split) := Go.Sx.ok_split
theorem okp_strings_ReplaceAll : True := trivial
theorem ok_strings_ReplaceAll : CtrOK Tryd.prog 26 (con_strings_ReplaceAll fun _ => g_strings_ReplaceAll) := Go.Sx.ok_replace
theorem okp_impl_ReadDecimal : True := trivial
theorem ok_impl_ReadDecimal : CtrOK Tryd.prog 28 (con_impl_ReadDecimal fun _ => g_impl_ReadDecimal) := Go.Sx.ok_readdec
theorem okp_strings_IndexByte : True := trivial
theorem ok_strings_IndexByte : CtrOK Tryd.prog 36 (con_strings_IndexByte fun _ => g_strings_IndexByte) := Go.Sx.ok_indexbyte
theorem okp_strings_Join : True := trivial
theorem ok_strings_Join : CtrOK Tryd.prog 45 (con_strings_Join fun _ => g_strings_Join) := Go.Sx.ok_join
def lp_laws_markText_4 : LP := ⟨[(0, false, [.int .i64]), (3, false, [.str])], [], 0⟩
theorem okp_laws_markText : CtrOK Tryd.prog 17 (con_laws_markText (laws_markText_ )) :=
  fun_ok (c := Tryd.f17.body.getD .skip) (con_laws_markText (laws_markText_ )) (gOf []) [] [⟨4, lp_laws_markText_4, laws_markText_L4 ⟩] rfl Tryd.func17 rfl rfl rfl (gOf_nil) (by kernel_rfl) [4] 0 (by kernel_rfl) (by kernel_rfl)
    (fun x => .cons (⟨4, lp_laws_markText_4, laws_markText_L4 ⟩ : Lab (OKs [.v false [.str]])) rfl rfl (by kernel_rfl) (by kernel_rfl) (.nil _))
theorem ok_laws_markText : CtrOK Tryd.prog 17 (con_laws_markText fun _ => g_laws_markText) := (okp_laws_markText  ).nice e_laws_markText

def lp_laws_heldInS_2 : LP := ⟨[(0, false, [.sl 0]), (1, false, [.int .i64]), (5, false, [.int .i64])], [.ro (.pair (.int .i64) (.pair .str .str)) 0], 1⟩
theorem okp_laws_heldInS (laws_markText : Nat → Int → Option (ByteArray)) (h17 : CtrOK Tryd.prog 17 (con_laws_markText laws_markText)) : CtrOK Tryd.prog 8 (con_laws_heldInS (laws_heldInS_ laws_markText )) :=
  fun_ok (c := Tryd.f8.body.getD .skip) (con_laws_heldInS (laws_heldInS_ laws_markText )) (gOf [(17, con_laws_markText laws_markText)]) [] [⟨2, lp_laws_heldInS_2, laws_heldInS_L2 laws_markText ⟩] rfl Tryd.func8 rfl rfl rfl (gOf_cons h17 (gOf_nil)) (by kernel_rfl) [2] 1 (by kernel_rfl) (by kernel_rfl)
    (fun x => .cons (⟨2, lp_laws_heldInS_2, laws_heldInS_L2 laws_markText ⟩ : Lab (OKs [.v false [.int .i64]])) rfl rfl (by kernel_rfl) (by kernel_rfl) (.nil _))
theorem ok_laws_heldInS : CtrOK Tryd.prog 8 (con_laws_heldInS fun _ => g_laws_heldInS) := (okp_laws_heldInS _ ok_laws_markText).nice e_laws_heldInS

theorem okp_laws_eqIn : CtrOK Tryd.prog 16 (con_laws_eqIn (laws_eqIn_ )) :=
  fun_ok0 (c := Tryd.f16.body.getD .skip) (con_laws_eqIn (laws_eqIn_ )) (gOf []) rfl Tryd.func16 rfl rfl rfl (gOf_nil) (by kernel_rfl) (by kernel_rfl)
theorem ok_laws_eqIn : CtrOK Tryd.prog 16 (con_laws_eqIn fun _ => g_laws_eqIn) := (okp_laws_eqIn  ).nice e_laws_eqIn

def lp_laws_eqInS_4 : LP := ⟨[(0, false, [.sl 0]), (1, false, [.sl 1]), (5, false, [.int .i64])], [.ro (.pair (.int .i64) (.pair .str .str)) 0, .ro (.pair (.int .i64) (.pair .str .str)) 0], 2⟩
theorem okp_laws_eqInS (laws_eqIn : Nat → (Int × ByteArray × ByteArray) × (Int × ByteArray × ByteArray) → Option (Bool)) (h16 : CtrOK Tryd.prog 16 (con_laws_eqIn laws_eqIn)) : CtrOK Tryd.prog 6 (con_laws_eqInS (laws_eqInS_ laws_eqIn )) :=
  fun_ok (c := Tryd.f6.body.getD .skip) (con_laws_eqInS (laws_eqInS_ laws_eqIn )) (gOf [(16, con_laws_eqIn laws_eqIn)]) [] [⟨4, lp_laws_eqInS_4, laws_eqInS_L4 laws_eqIn ⟩] rfl Tryd.func6 rfl rfl rfl (gOf_cons h16 (gOf_nil)) (by kernel_rfl) [4] 2 (by kernel_rfl) (by kernel_rfl)
    (fun x => .cons (⟨4, lp_laws_eqInS_4, laws_eqInS_L4 laws_eqIn ⟩ : Lab (OKs [.v false [.bool]])) rfl rfl (by kernel_rfl) (by kernel_rfl) (.nil _))
theorem ok_laws_eqInS : CtrOK Tryd.prog 6 (con_laws_eqInS fun _ => g_laws_eqInS) := (okp_laws_eqInS _ ok_laws_eqIn).nice e_laws_eqInS

theorem okp_impl_within : CtrOK Tryd.prog 24 (con_impl_within (impl_within_ )) :=
  fun_ok0 (c := Tryd.f24.body.getD .skip) (con_impl_within (impl_within_ )) (gOf []) rfl Tryd.func24 rfl rfl rfl (gOf_nil) (by kernel_rfl) (by kernel_rfl)
theorem ok_impl_within : CtrOK Tryd.prog 24 (con_impl_within fun _ => g_impl_within) := (okp_impl_within  ).nice e_impl_within

theorem okp_impl_SenseOk (impl_within : Nat → Int × Int × Int → Option (Bool)) (h24 : CtrOK Tryd.prog 24 (con_impl_within impl_within)) : CtrOK Tryd.prog 39 (con_impl_SenseOk (impl_SenseOk_ impl_within )) :=
  fun_ok0 (c := Tryd.f39.body.getD .skip) (con_impl_SenseOk (impl_SenseOk_ impl_within )) (gOf [(24, con_impl_within impl_within)]) rfl Tryd.func39 rfl rfl rfl (gOf_cons h24 (gOf_nil)) (by kernel_rfl) (by kernel_rfl)
theorem ok_impl_SenseOk : CtrOK Tryd.prog 39 (con_impl_SenseOk fun _ => g_impl_SenseOk) := (okp_impl_SenseOk _ ok_impl_within).nice e_impl_SenseOk

theorem okp_impl_InOk (impl_SenseOk : Nat → Int → Option (Bool)) (h39 : CtrOK Tryd.prog 39 (con_impl_SenseOk impl_SenseOk)) : CtrOK Tryd.prog 29 (con_impl_InOk (impl_InOk_ impl_SenseOk )) :=
  fun_ok0 (c := Tryd.f29.body.getD .skip) (con_impl_InOk (impl_InOk_ impl_SenseOk )) (gOf [(39, con_impl_SenseOk impl_SenseOk)]) rfl Tryd.func29 rfl rfl rfl (gOf_cons h39 (gOf_nil)) (by kernel_rfl) (by kernel_rfl)
theorem ok_impl_InOk : CtrOK Tryd.prog 29 (con_impl_InOk fun _ => g_impl_InOk) := (okp_impl_InOk _ ok_impl_SenseOk).nice e_impl_InOk

def lp_impl_Unhex_5 : LP := ⟨[(0, false, [.str]), (4, false, [.sl 0]), (5, false, [.int .i64])], [.row (.int .u8) 5], 0⟩
theorem okp_impl_Unhex (strings_IndexByte : Nat → ByteArray × Int → Option (Int)) (h36 : CtrOK Tryd.prog 36 (con_strings_IndexByte strings_IndexByte)) : CtrOK Tryd.prog 27 (con_impl_Unhex (impl_Unhex_ strings_IndexByte )) :=
  fun_ok (c := Tryd.f27.body.getD .skip) (con_impl_Unhex (impl_Unhex_ strings_IndexByte )) (gOf [(36, con_strings_IndexByte strings_IndexByte)]) [] [⟨5, lp_impl_Unhex_5, impl_Unhex_L5 strings_IndexByte ⟩] rfl Tryd.func27 rfl rfl rfl (gOf_cons h36 (gOf_nil)) (by kernel_rfl) [5] 0 (by kernel_rfl) (by kernel_rfl)
    (fun x => .cons (⟨5, lp_impl_Unhex_5, impl_Unhex_L5 strings_IndexByte ⟩ : Lab (OKs [.v false [.str], .v false [.bool]])) rfl rfl (by kernel_rfl) (by kernel_rfl) (.nil _))
theorem ok_impl_Unhex : CtrOK Tryd.prog 27 (con_impl_Unhex fun _ => g_impl_Unhex) := (okp_impl_Unhex _ ok_strings_IndexByte).nice e_impl_Unhex

def lp_impl_SenseNames_7 : LP := ⟨[(0, false, [.int .i64]), (3, false, [.sl 0]), (12, false, [.sl 1]), (13, false, [.int .i64]), (14, false, [.int .i64])], [.row .str 9, .row .str 9], 0⟩
theorem okp_impl_SenseNames (impl_SenseOk : Nat → Int → Option (Bool)) (strings_Join : Nat → List ByteArray × ByteArray → Option (ByteArray)) (h39 : CtrOK Tryd.prog 39 (con_impl_SenseOk impl_SenseOk)) (h45 : CtrOK Tryd.prog 45 (con_strings_Join strings_Join)) : CtrOK Tryd.prog 34 (con_impl_SenseNames (impl_SenseNames_ impl_SenseOk strings_Join )) :=
  fun_ok (c := Tryd.f34.body.getD .skip) (con_impl_SenseNames (impl_SenseNames_ impl_SenseOk strings_Join )) (gOf [(39, con_impl_SenseOk impl_SenseOk), (45, con_strings_Join strings_Join)]) [] [⟨7, lp_impl_SenseNames_7, impl_SenseNames_L7 impl_SenseOk strings_Join ⟩] rfl Tryd.func34 rfl rfl rfl (gOf_cons h39 (gOf_cons h45 (gOf_nil))) (by kernel_rfl) [7] 0 (by kernel_rfl) (by kernel_rfl)
    (fun x => .cons (⟨7, lp_impl_SenseNames_7, impl_SenseNames_L7 impl_SenseOk strings_Join ⟩ : Lab (OKs [.v false [.str]])) rfl rfl (by kernel_rfl) (by kernel_rfl) (.nil _))
theorem ok_impl_SenseNames : CtrOK Tryd.prog 34 (con_impl_SenseNames fun _ => g_impl_SenseNames) := (okp_impl_SenseNames _ _ ok_impl_SenseOk ok_strings_Join).nice e_impl_SenseNames

def lp_impl_ReadSense_2 : LP := ⟨[(0, false, [.str]), (5, false, [.int .i64])], [], 0⟩
theorem okp_impl_ReadSense (impl_SenseNames : Nat → Int → Option (ByteArray)) (h34 : CtrOK Tryd.prog 34 (con_impl_SenseNames impl_SenseNames)) : CtrOK Tryd.prog 25 (con_impl_ReadSense (impl_ReadSense_ impl_SenseNames )) :=
  fun_ok (c := Tryd.f25.body.getD .skip) (con_impl_ReadSense (impl_ReadSense_ impl_SenseNames )) (gOf [(34, con_impl_SenseNames impl_SenseNames)]) [] [⟨2, lp_impl_ReadSense_2, impl_ReadSense_L2 impl_SenseNames ⟩] rfl Tryd.func25 rfl rfl rfl (gOf_cons h34 (gOf_nil)) (by kernel_rfl) [2] 0 (by kernel_rfl) (by kernel_rfl)
    (fun x => .cons (⟨2, lp_impl_ReadSense_2, impl_ReadSense_L2 impl_SenseNames ⟩ : Lab (OKs [.v false [.int .i64], .v false [.bool]])) rfl rfl (by kernel_rfl) (by kernel_rfl) (.nil _))
theorem ok_impl_ReadSense : CtrOK Tryd.prog 25 (con_impl_ReadSense fun _ => g_impl_ReadSense) := (okp_impl_ReadSense _ ok_impl_SenseNames).nice e_impl_ReadSense

theorem okp_impl_readIn (impl_InOk : Nat → (Int × ByteArray × ByteArray) → Option (Bool)) (impl_ReadDecimal : Nat → ByteArray → Option (Int × Bool)) (impl_ReadSense : Nat → ByteArray → Option (Int × Bool)) (impl_Unhex : Nat → ByteArray → Option (ByteArray × Bool)) (impl_within : Nat → Int × Int × Int → Option (Bool)) (strings_ReplaceAll : Nat → ByteArray × ByteArray × ByteArray → Option (ByteArray)) (h29 : CtrOK Tryd.prog 29 (con_impl_InOk impl_InOk)) (h28 : CtrOK Tryd.prog 28 (con_impl_ReadDecimal impl_ReadDecimal)) (h25 : CtrOK Tryd.prog 25 (con_impl_ReadSense impl_ReadSense)) (h27 : CtrOK Tryd.prog 27 (con_impl_Unhex impl_Unhex)) (h24 : CtrOK Tryd.prog 24 (con_impl_within impl_within)) (h26 : CtrOK Tryd.prog 26 (con_strings_ReplaceAll strings_ReplaceAll)) : CtrOK Tryd.prog 15 (con_impl_readIn (impl_readIn_ impl_InOk impl_ReadDecimal impl_ReadSense impl_Unhex impl_within strings_ReplaceAll )) :=
  fun_ok0 (c := Tryd.f15.body.getD .skip) (con_impl_readIn (impl_readIn_ impl_InOk impl_ReadDecimal impl_ReadSense impl_Unhex impl_within strings_ReplaceAll )) (gOf [(29, con_impl_InOk impl_InOk), (28, con_impl_ReadDecimal impl_ReadDecimal), (25, con_impl_ReadSense impl_ReadSense), (27, con_impl_Unhex impl_Unhex), (24, con_impl_within impl_within), (26, con_strings_ReplaceAll strings_ReplaceAll)]) rfl Tryd.func15 rfl rfl rfl (gOf_cons h29 (gOf_cons h28 (gOf_cons h25 (gOf_cons h27 (gOf_cons h24 (gOf_cons h26 (gOf_nil))))))) (by kernel_rfl) (by kernel_rfl)
theorem ok_impl_readIn : CtrOK Tryd.prog 15 (con_impl_readIn fun _ => g_impl_readIn) := (okp_impl_readIn _ _ _ _ _ _ ok_impl_InOk ok_impl_ReadDecimal ok_impl_ReadSense ok_impl_Unhex ok_impl_within ok_strings_ReplaceAll).nice e_impl_readIn

def lp_impl_PartsOf_5 : LP := ⟨[(0, false, [.str]), (4, false, [.sl 0]), (5, false, [.int .i64])], [.row .str 9], 0⟩
def lp_impl_PartsOf_10 : LP := ⟨[(4, false, [.sl 0]), (25, false, [.sl 1]), (26, false, [.int .i64]), (27, false, [.int .i64])], [.row .str 9, .row .str 9], 0⟩
theorem okp_impl_PartsOf (impl_within : Nat → Int × Int × Int → Option (Bool)) (strings_Split : Nat → ByteArray × ByteArray → Option (List ByteArray)) (h24 : CtrOK Tryd.prog 24 (con_impl_within impl_within)) (h23 : CtrOK Tryd.prog 23 (con_strings_Split strings_Split)) : CtrOK Tryd.prog 14 (con_impl_PartsOf (impl_PartsOf_ impl_within strings_Split )) :=
  fun_ok (c := Tryd.f14.body.getD .skip) (con_impl_PartsOf (impl_PartsOf_ impl_within strings_Split )) (gOf [(24, con_impl_within impl_within), (23, con_strings_Split strings_Split)]) [] [⟨5, lp_impl_PartsOf_5, impl_PartsOf_L5 impl_within strings_Split ⟩, ⟨10, lp_impl_PartsOf_10, impl_PartsOf_L10 impl_within strings_Split ⟩] rfl Tryd.func14 rfl rfl rfl (gOf_cons h24 (gOf_cons h23 (gOf_nil))) (by kernel_rfl) [5, 10] 0 (by kernel_rfl) (by kernel_rfl)
    (fun x => .cons (⟨5, lp_impl_PartsOf_5, impl_PartsOf_L5 impl_within strings_Split ⟩ : Lab (OKs [.v false [.own .str 9], .v false [.bool]])) rfl rfl (by kernel_rfl) (by kernel_rfl) (.cons (⟨10, lp_impl_PartsOf_10, impl_PartsOf_L10 impl_within strings_Split ⟩ : Lab (OKs [.v false [.own .str 9], .v false [.bool]])) rfl rfl (by kernel_rfl) (by kernel_rfl) (.nil _)))
theorem ok_impl_PartsOf : CtrOK Tryd.prog 14 (con_impl_PartsOf fun _ => g_impl_PartsOf) := (okp_impl_PartsOf _ _ ok_impl_within ok_strings_Split).nice e_impl_PartsOf

theorem okp_impl_linesOf (strings_Split : Nat → ByteArray × ByteArray → Option (List ByteArray)) (h23 : CtrOK Tryd.prog 23 (con_strings_Split strings_Split)) : CtrOK Tryd.prog 13 (con_impl_linesOf (impl_linesOf_ strings_Split )) :=
  fun_ok0 (c := Tryd.f13.body.getD .skip) (con_impl_linesOf (impl_linesOf_ strings_Split )) (gOf [(23, con_strings_Split strings_Split)]) rfl Tryd.func13 rfl rfl rfl (gOf_cons h23 (gOf_nil)) (by kernel_rfl) (by kernel_rfl)
theorem ok_impl_linesOf : CtrOK Tryd.prog 13 (con_impl_linesOf fun _ => g_impl_linesOf) := (okp_impl_linesOf _ ok_strings_Split).nice e_impl_linesOf

def lp_impl_ReadScript_6 : LP := ⟨[(5, false, [.sl 0]), (24, false, [.sl 1]), (25, false, [.int .i64]), (26, false, [.int .i64])], [.row (.pair (.int .i64) (.pair .str .str)) 33, .row .str 9], 0⟩
def lp_impl_ReadScript_16 : LP := ⟨[(5, false, [.sl 0]), (10, false, [.ptr 1 0]), (24, false, [.sl 2]), (25, false, [.int .i64]), (26, false, [.int .i64]), (70, false, [.int .i64]), (71, false, [.int .i64])], [.row (.pair (.int .i64) (.pair .str .str)) 33, .box [.int .i64, .str, .str] 33, .row .str 9], 0⟩
theorem okp_impl_ReadScript (impl_PartsOf : Nat → ByteArray → Option (List ByteArray × Bool)) (impl_linesOf : Nat → ByteArray → Option (List ByteArray)) (impl_readIn : Nat → List ByteArray → Option ((Int × ByteArray × ByteArray) × Int × Bool)) (h14 : CtrOK Tryd.prog 14 (con_impl_PartsOf impl_PartsOf)) (h13 : CtrOK Tryd.prog 13 (con_impl_linesOf impl_linesOf)) (h15 : CtrOK Tryd.prog 15 (con_impl_readIn impl_readIn)) : CtrOK Tryd.prog 5 (con_impl_ReadScript (impl_ReadScript_ impl_PartsOf impl_linesOf impl_readIn )) :=
  fun_ok (c := Tryd.f5.body.getD .skip) (con_impl_ReadScript (impl_ReadScript_ impl_PartsOf impl_linesOf impl_readIn )) (gOf [(14, con_impl_PartsOf impl_PartsOf), (13, con_impl_linesOf impl_linesOf), (15, con_impl_readIn impl_readIn)]) [] [⟨6, lp_impl_ReadScript_6, impl_ReadScript_L6 impl_PartsOf impl_linesOf impl_readIn ⟩, ⟨16, lp_impl_ReadScript_16, impl_ReadScript_L16 impl_PartsOf impl_linesOf impl_readIn ⟩] rfl Tryd.func5 rfl rfl rfl (gOf_cons h14 (gOf_cons h13 (gOf_cons h15 (gOf_nil)))) (by kernel_rfl) [6, 16] 0 (by kernel_rfl) (by kernel_rfl)
    (fun x => .cons (⟨6, lp_impl_ReadScript_6, impl_ReadScript_L6 impl_PartsOf impl_linesOf impl_readIn ⟩ : Lab (OKs [.v false [.own (.pair (.int .i64) (.pair .str .str)) 33], .v false [.int .i64]])) rfl rfl (by kernel_rfl) (by kernel_rfl) (.cons (⟨16, lp_impl_ReadScript_16, impl_ReadScript_L16 impl_PartsOf impl_linesOf impl_readIn ⟩ : Lab (OKs [.v false [.own (.pair (.int .i64) (.pair .str .str)) 33], .v false [.int .i64]])) rfl rfl (by kernel_rfl) (by kernel_rfl) (.nil _)))
theorem ok_impl_ReadScript : CtrOK Tryd.prog 5 (con_impl_ReadScript fun _ => g_impl_ReadScript) := (okp_impl_ReadScript _ _ _ ok_impl_PartsOf ok_impl_linesOf ok_impl_readIn).nice e_impl_ReadScript

def lp_laws_markInS_2 : LP := ⟨[(0, false, [.sl 0]), (1, false, [.int .i64]), (5, false, [.int .i64])], [.row (.pair (.int .i64) (.pair .str .str)) 33], 1⟩
theorem okp_laws_markInS (laws_markText : Nat → Int → Option (ByteArray)) (h17 : CtrOK Tryd.prog 17 (con_laws_markText laws_markText)) : CtrOK Tryd.prog 7 (con_laws_markInS (laws_markInS_ laws_markText )) :=
  fun_ok (c := Tryd.f7.body.getD .skip) (con_laws_markInS (laws_markInS_ laws_markText )) (gOf [(17, con_laws_markText laws_markText)]) [] [⟨2, lp_laws_markInS_2, laws_markInS_L2 laws_markText ⟩] rfl Tryd.func7 rfl rfl rfl (gOf_cons h17 (gOf_nil)) (by kernel_rfl) [2] 1 (by kernel_rfl) (by kernel_rfl)
    (fun x => .cons (⟨2, lp_laws_markInS_2, laws_markInS_L2 laws_markText ⟩ : Lab (OKs [.v false [.int .i64], .row (.pair (.int .i64) (.pair .str .str)) 33])) rfl rfl (by kernel_rfl) (by kernel_rfl) (.nil _))
theorem ok_laws_markInS : CtrOK Tryd.prog 7 (con_laws_markInS fun _ => g_laws_markInS) := (okp_laws_markInS _ ok_laws_markText).nice e_laws_markInS

theorem okp_spec_l01In : CtrOK Tryd.prog 21 (con_spec_l01In (spec_l01In_ )) :=
  fun_ok0 (c := Tryd.f21.body.getD .skip) (con_spec_l01In (spec_l01In_ )) (gOf []) rfl Tryd.func21 rfl rfl rfl (gOf_nil) (by kernel_rfl) (by kernel_rfl)
theorem ok_spec_l01In : CtrOK Tryd.prog 21 (con_spec_l01In fun _ => g_spec_l01In) := (okp_spec_l01In  ).nice e_spec_l01In

theorem okp_spec_SenseOk (spec_l01In : Nat → Int × Int × Int → Option (Bool)) (h21 : CtrOK Tryd.prog 21 (con_spec_l01In spec_l01In)) : CtrOK Tryd.prog 22 (con_spec_SenseOk (spec_SenseOk_ spec_l01In )) :=
  fun_ok0 (c := Tryd.f22.body.getD .skip) (con_spec_SenseOk (spec_SenseOk_ spec_l01In )) (gOf [(21, con_spec_l01In spec_l01In)]) rfl Tryd.func22 rfl rfl rfl (gOf_cons h21 (gOf_nil)) (by kernel_rfl) (by kernel_rfl)
theorem ok_spec_SenseOk : CtrOK Tryd.prog 22 (con_spec_SenseOk fun _ => g_spec_SenseOk) := (okp_spec_SenseOk _ ok_spec_l01In).nice e_spec_SenseOk

theorem okp_spec_InOk (spec_SenseOk : Nat → Int → Option (Bool)) (h22 : CtrOK Tryd.prog 22 (con_spec_SenseOk spec_SenseOk)) : CtrOK Tryd.prog 12 (con_spec_InOk (spec_InOk_ spec_SenseOk )) :=
  fun_ok0 (c := Tryd.f12.body.getD .skip) (con_spec_InOk (spec_InOk_ spec_SenseOk )) (gOf [(22, con_spec_SenseOk spec_SenseOk)]) rfl Tryd.func12 rfl rfl rfl (gOf_cons h22 (gOf_nil)) (by kernel_rfl) (by kernel_rfl)
theorem ok_spec_InOk : CtrOK Tryd.prog 12 (con_spec_InOk fun _ => g_spec_InOk) := (okp_spec_InOk _ ok_spec_SenseOk).nice e_spec_InOk

theorem okp_spec_l01Figure : CtrOK Tryd.prog 41 (con_spec_l01Figure (spec_l01Figure_ )) :=
  fun_ok0 (c := Tryd.f41.body.getD .skip) (con_spec_l01Figure (spec_l01Figure_ )) (gOf []) rfl Tryd.func41 rfl rfl rfl (gOf_nil) (by kernel_rfl) (by kernel_rfl)
theorem ok_spec_l01Figure : CtrOK Tryd.prog 41 (con_spec_l01Figure fun _ => g_spec_l01Figure) := (okp_spec_l01Figure  ).nice e_spec_l01Figure

def lp_spec_Decimal_5 : LP := ⟨[(0, false, [.int .i64]), (3, false, [.bool]), (4, false, [.str])], [], 0⟩
theorem okp_spec_Decimal (spec_l01Figure : Nat → Int → Option (Int)) (h41 : CtrOK Tryd.prog 41 (con_spec_l01Figure spec_l01Figure)) : CtrOK Tryd.prog 32 (con_spec_Decimal (spec_Decimal_ spec_l01Figure )) :=
  fun_ok (c := Tryd.f32.body.getD .skip) (con_spec_Decimal (spec_Decimal_ spec_l01Figure )) (gOf [(41, con_spec_l01Figure spec_l01Figure)]) [] [⟨5, lp_spec_Decimal_5, spec_Decimal_L5 spec_l01Figure ⟩] rfl Tryd.func32 rfl rfl rfl (gOf_cons h41 (gOf_nil)) (by kernel_rfl) [5] 0 (by kernel_rfl) (by kernel_rfl)
    (fun x => .cons (⟨5, lp_spec_Decimal_5, spec_Decimal_L5 spec_l01Figure ⟩ : Lab (OKs [.v false [.str]])) rfl rfl (by kernel_rfl) (by kernel_rfl) (.nil _))
theorem ok_spec_Decimal : CtrOK Tryd.prog 32 (con_spec_Decimal fun _ => g_spec_Decimal) := (okp_spec_Decimal _ ok_spec_l01Figure).nice e_spec_Decimal

def lp_spec_ReadDecimal_5 : LP := ⟨[(0, false, [.str]), (4, false, [.int .i64]), (5, false, [.int .i64])], [], 0⟩
theorem okp_spec_ReadDecimal (spec_Decimal : Nat → Int → Option (ByteArray)) (h32 : CtrOK Tryd.prog 32 (con_spec_Decimal spec_Decimal)) : CtrOK Tryd.prog 20 (con_spec_ReadDecimal (spec_ReadDecimal_ spec_Decimal )) :=
  fun_ok (c := Tryd.f20.body.getD .skip) (con_spec_ReadDecimal (spec_ReadDecimal_ spec_Decimal )) (gOf [(32, con_spec_Decimal spec_Decimal)]) [] [⟨5, lp_spec_ReadDecimal_5, spec_ReadDecimal_L5 spec_Decimal ⟩] rfl Tryd.func20 rfl rfl rfl (gOf_cons h32 (gOf_nil)) (by kernel_rfl) [5] 0 (by kernel_rfl) (by kernel_rfl)
    (fun x => .cons (⟨5, lp_spec_ReadDecimal_5, spec_ReadDecimal_L5 spec_Decimal ⟩ : Lab (OKs [.v false [.int .i64], .v false [.bool]])) rfl rfl (by kernel_rfl) (by kernel_rfl) (.nil _))
theorem ok_spec_ReadDecimal : CtrOK Tryd.prog 20 (con_spec_ReadDecimal fun _ => g_spec_ReadDecimal) := (okp_spec_ReadDecimal _ ok_spec_Decimal).nice e_spec_ReadDecimal

theorem okp_spec_l01Value : CtrOK Tryd.prog 31 (con_spec_l01Value (spec_l01Value_ )) :=
  fun_ok0 (c := Tryd.f31.body.getD .skip) (con_spec_l01Value (spec_l01Value_ )) (gOf []) rfl Tryd.func31 rfl rfl rfl (gOf_nil) (by kernel_rfl) (by kernel_rfl)
theorem ok_spec_l01Value : CtrOK Tryd.prog 31 (con_spec_l01Value fun _ => g_spec_l01Value) := (okp_spec_l01Value  ).nice e_spec_l01Value

def lp_spec_Unhex_5 : LP := ⟨[(0, false, [.str]), (4, false, [.sl 0]), (5, false, [.int .i64])], [.row (.int .u8) 5], 0⟩
theorem okp_spec_Unhex (spec_l01Value : Nat → Int → Option (Int)) (h31 : CtrOK Tryd.prog 31 (con_spec_l01Value spec_l01Value)) : CtrOK Tryd.prog 19 (con_spec_Unhex (spec_Unhex_ spec_l01Value )) :=
  fun_ok (c := Tryd.f19.body.getD .skip) (con_spec_Unhex (spec_Unhex_ spec_l01Value )) (gOf [(31, con_spec_l01Value spec_l01Value)]) [] [⟨5, lp_spec_Unhex_5, spec_Unhex_L5 spec_l01Value ⟩] rfl Tryd.func19 rfl rfl rfl (gOf_cons h31 (gOf_nil)) (by kernel_rfl) [5] 0 (by kernel_rfl) (by kernel_rfl)
    (fun x => .cons (⟨5, lp_spec_Unhex_5, spec_Unhex_L5 spec_l01Value ⟩ : Lab (OKs [.v false [.str], .v false [.bool]])) rfl rfl (by kernel_rfl) (by kernel_rfl) (.nil _))
theorem ok_spec_Unhex : CtrOK Tryd.prog 19 (con_spec_Unhex fun _ => g_spec_Unhex) := (okp_spec_Unhex _ ok_spec_l01Value).nice e_spec_Unhex

theorem okp_spec_Has (spec_SenseOk : Nat → Int → Option (Bool)) (h22 : CtrOK Tryd.prog 22 (con_spec_SenseOk spec_SenseOk)) : CtrOK Tryd.prog 40 (con_spec_Has (spec_Has_ spec_SenseOk )) :=
  fun_ok0 (c := Tryd.f40.body.getD .skip) (con_spec_Has (spec_Has_ spec_SenseOk )) (gOf [(22, con_spec_SenseOk spec_SenseOk)]) rfl Tryd.func40 rfl rfl rfl (gOf_cons h22 (gOf_nil)) (by kernel_rfl) (by kernel_rfl)
theorem ok_spec_Has : CtrOK Tryd.prog 40 (con_spec_Has fun _ => g_spec_Has) := (okp_spec_Has _ ok_spec_SenseOk).nice e_spec_Has

def lp_spec_SenseNames_7 : LP := ⟨[(0, false, [.int .i64]), (3, false, [.sl 0]), (4, false, [.sl 1]), (5, false, [.str]), (6, false, [.int .i64])], [.row .str 9, .row (.int .i64) 3], 0⟩
theorem okp_spec_SenseNames (spec_Has : Nat → Int × Int → Option (Bool)) (spec_SenseOk : Nat → Int → Option (Bool)) (h40 : CtrOK Tryd.prog 40 (con_spec_Has spec_Has)) (h22 : CtrOK Tryd.prog 22 (con_spec_SenseOk spec_SenseOk)) : CtrOK Tryd.prog 30 (con_spec_SenseNames (spec_SenseNames_ spec_Has spec_SenseOk )) :=
  fun_ok (c := Tryd.f30.body.getD .skip) (con_spec_SenseNames (spec_SenseNames_ spec_Has spec_SenseOk )) (gOf [(40, con_spec_Has spec_Has), (22, con_spec_SenseOk spec_SenseOk)]) [] [⟨7, lp_spec_SenseNames_7, spec_SenseNames_L7 spec_Has spec_SenseOk ⟩] rfl Tryd.func30 rfl rfl rfl (gOf_cons h40 (gOf_cons h22 (gOf_nil))) (by kernel_rfl) [7] 0 (by kernel_rfl) (by kernel_rfl)
    (fun x => .cons (⟨7, lp_spec_SenseNames_7, spec_SenseNames_L7 spec_Has spec_SenseOk ⟩ : Lab (OKs [.v false [.str]])) rfl rfl (by kernel_rfl) (by kernel_rfl) (.nil _))
theorem ok_spec_SenseNames : CtrOK Tryd.prog 30 (con_spec_SenseNames fun _ => g_spec_SenseNames) := (okp_spec_SenseNames _ _ ok_spec_Has ok_spec_SenseOk).nice e_spec_SenseNames

def lp_spec_ReadSense_2 : LP := ⟨[(0, false, [.str]), (4, false, [.int .i64])], [], 0⟩
theorem okp_spec_ReadSense (spec_SenseNames : Nat → Int → Option (ByteArray)) (h30 : CtrOK Tryd.prog 30 (con_spec_SenseNames spec_SenseNames)) : CtrOK Tryd.prog 18 (con_spec_ReadSense (spec_ReadSense_ spec_SenseNames )) :=
  fun_ok (c := Tryd.f18.body.getD .skip) (con_spec_ReadSense (spec_ReadSense_ spec_SenseNames )) (gOf [(30, con_spec_SenseNames spec_SenseNames)]) [] [⟨2, lp_spec_ReadSense_2, spec_ReadSense_L2 spec_SenseNames ⟩] rfl Tryd.func18 rfl rfl rfl (gOf_cons h30 (gOf_nil)) (by kernel_rfl) [2] 0 (by kernel_rfl) (by kernel_rfl)
    (fun x => .cons (⟨2, lp_spec_ReadSense_2, spec_ReadSense_L2 spec_SenseNames ⟩ : Lab (OKs [.v false [.int .i64], .v false [.bool]])) rfl rfl (by kernel_rfl) (by kernel_rfl) (.nil _))
theorem ok_spec_ReadSense : CtrOK Tryd.prog 18 (con_spec_ReadSense fun _ => g_spec_ReadSense) := (okp_spec_ReadSense _ ok_spec_SenseNames).nice e_spec_ReadSense

def lp_spec_l05Lines_4 : LP := ⟨[(0, false, [.str]), (3, false, [.sl 0]), (4, false, [.int .i64]), (5, false, [.int .i64])], [.row .str 9], 0⟩
theorem okp_spec_l05Lines : CtrOK Tryd.prog 9 (con_spec_l05Lines (spec_l05Lines_ )) :=
  fun_ok (c := Tryd.f9.body.getD .skip) (con_spec_l05Lines (spec_l05Lines_ )) (gOf []) [] [⟨4, lp_spec_l05Lines_4, spec_l05Lines_L4 ⟩] rfl Tryd.func9 rfl rfl rfl (gOf_nil) (by kernel_rfl) [4] 0 (by kernel_rfl) (by kernel_rfl)
    (fun x => .cons (⟨4, lp_spec_l05Lines_4, spec_l05Lines_L4 ⟩ : Lab (OKs [.v false [.own .str 9]])) rfl rfl (by kernel_rfl) (by kernel_rfl) (.nil _))
theorem ok_spec_l05Lines : CtrOK Tryd.prog 9 (con_spec_l05Lines fun _ => g_spec_l05Lines) := (okp_spec_l05Lines  ).nice e_spec_l05Lines

def lp_spec_l20Line_13 : LP := ⟨[(0, false, [.sl 0]), (2, false, [.ptr 1 0]), (6, false, [.str]), (7, false, [.int .i64])], [.ro .str 0, .box [.int .i64, .str, .str] 33], 1⟩
theorem okp_spec_l20Line (spec_ReadDecimal : Nat → ByteArray → Option (Int × Bool)) (spec_ReadSense : Nat → ByteArray → Option (Int × Bool)) (spec_Unhex : Nat → ByteArray → Option (ByteArray × Bool)) (spec_l01In : Nat → Int × Int × Int → Option (Bool)) (h20 : CtrOK Tryd.prog 20 (con_spec_ReadDecimal spec_ReadDecimal)) (h18 : CtrOK Tryd.prog 18 (con_spec_ReadSense spec_ReadSense)) (h19 : CtrOK Tryd.prog 19 (con_spec_Unhex spec_Unhex)) (h21 : CtrOK Tryd.prog 21 (con_spec_l01In spec_l01In)) : CtrOK Tryd.prog 11 (con_spec_l20Line (spec_l20Line_ spec_ReadDecimal spec_ReadSense spec_Unhex spec_l01In )) :=
  fun_ok (c := Tryd.f11.body.getD .skip) (con_spec_l20Line (spec_l20Line_ spec_ReadDecimal spec_ReadSense spec_Unhex spec_l01In )) (gOf [(20, con_spec_ReadDecimal spec_ReadDecimal), (18, con_spec_ReadSense spec_ReadSense), (19, con_spec_Unhex spec_Unhex), (21, con_spec_l01In spec_l01In)]) [] [⟨13, lp_spec_l20Line_13, spec_l20Line_L13 spec_ReadDecimal spec_ReadSense spec_Unhex spec_l01In ⟩] rfl Tryd.func11 rfl rfl rfl (gOf_cons h20 (gOf_cons h18 (gOf_cons h19 (gOf_cons h21 (gOf_nil))))) (by kernel_rfl) [13] 1 (by kernel_rfl) (by kernel_rfl)
    (fun x => .cons (⟨13, lp_spec_l20Line_13, spec_l20Line_L13 spec_ReadDecimal spec_ReadSense spec_Unhex spec_l01In ⟩ : Lab (OKs [.v true [.int .i64, .str, .str], .v false [.int .i64]])) rfl rfl (by kernel_rfl) (by kernel_rfl) (.nil _))
theorem ok_spec_l20Line : CtrOK Tryd.prog 11 (con_spec_l20Line fun _ => g_spec_l20Line) := (okp_spec_l20Line _ _ _ _ ok_spec_ReadDecimal ok_spec_ReadSense ok_spec_Unhex ok_spec_l01In).nice e_spec_l20Line

def lp_spec_PartsOf_6 : LP := ⟨[(0, false, [.str]), (4, false, [.sl 0]), (5, false, [.int .i64]), (6, false, [.int .i64])], [.row .str 9], 0⟩
theorem okp_spec_PartsOf : CtrOK Tryd.prog 10 (con_spec_PartsOf (spec_PartsOf_ )) :=
  fun_ok (c := Tryd.f10.body.getD .skip) (con_spec_PartsOf (spec_PartsOf_ )) (gOf []) [] [⟨6, lp_spec_PartsOf_6, spec_PartsOf_L6 ⟩] rfl Tryd.func10 rfl rfl rfl (gOf_nil) (by kernel_rfl) [6] 0 (by kernel_rfl) (by kernel_rfl)
    (fun x => .cons (⟨6, lp_spec_PartsOf_6, spec_PartsOf_L6 ⟩ : Lab (OKs [.v false [.own .str 9], .v false [.bool]])) rfl rfl (by kernel_rfl) (by kernel_rfl) (.nil _))
theorem ok_spec_PartsOf : CtrOK Tryd.prog 10 (con_spec_PartsOf fun _ => g_spec_PartsOf) := (okp_spec_PartsOf  ).nice e_spec_PartsOf

def lp_spec_ReadScript_7 : LP := ⟨[(4, false, [.sl 0]), (5, false, [.sl 1]), (6, false, [.sl 2]), (7, false, [.int .i64])], [.row (.pair (.int .i64) (.pair .str .str)) 33, .row .str 9, .row (.pair (.int .i64) (.pair .str .str)) 33], 0⟩
def lp_spec_ReadScript_17 : LP := ⟨[(4, false, [.sl 0]), (5, false, [.sl 1]), (6, false, [.sl 2]), (7, false, [.int .i64]), (10, false, [.ptr 3 0]), (11, false, [.int .i64]), (12, false, [.int .i64])], [.row (.pair (.int .i64) (.pair .str .str)) 33, .row .str 9, .row (.pair (.int .i64) (.pair .str .str)) 33, .box [.int .i64, .str, .str] 33], 0⟩
theorem okp_spec_ReadScript (spec_InOk : Nat → (Int × ByteArray × ByteArray) → Option (Bool)) (spec_PartsOf : Nat → ByteArray → Option (List ByteArray × Bool)) (spec_l05Lines : Nat → ByteArray → Option (List ByteArray)) (spec_l20Line : Nat → List ByteArray → Option ((Int × ByteArray × ByteArray) × Int)) (h12 : CtrOK Tryd.prog 12 (con_spec_InOk spec_InOk)) (h10 : CtrOK Tryd.prog 10 (con_spec_PartsOf spec_PartsOf)) (h9 : CtrOK Tryd.prog 9 (con_spec_l05Lines spec_l05Lines)) (h11 : CtrOK Tryd.prog 11 (con_spec_l20Line spec_l20Line)) : CtrOK Tryd.prog 4 (con_spec_ReadScript (spec_ReadScript_ spec_InOk spec_PartsOf spec_l05Lines spec_l20Line )) :=
  fun_ok (c := Tryd.f4.body.getD .skip) (con_spec_ReadScript (spec_ReadScript_ spec_InOk spec_PartsOf spec_l05Lines spec_l20Line )) (gOf [(12, con_spec_InOk spec_InOk), (10, con_spec_PartsOf spec_PartsOf), (9, con_spec_l05Lines spec_l05Lines), (11, con_spec_l20Line spec_l20Line)]) [] [⟨7, lp_spec_ReadScript_7, spec_ReadScript_L7 spec_InOk spec_PartsOf spec_l05Lines spec_l20Line ⟩, ⟨17, lp_spec_ReadScript_17, spec_ReadScript_L17 spec_InOk spec_PartsOf spec_l05Lines spec_l20Line ⟩] rfl Tryd.func4 rfl rfl rfl (gOf_cons h12 (gOf_cons h10 (gOf_cons h9 (gOf_cons h11 (gOf_nil))))) (by kernel_rfl) [7, 17] 0 (by kernel_rfl) (by kernel_rfl)
    (fun x => .cons (⟨7, lp_spec_ReadScript_7, spec_ReadScript_L7 spec_InOk spec_PartsOf spec_l05Lines spec_l20Line ⟩ : Lab (OKs [.v false [.own (.pair (.int .i64) (.pair .str .str)) 33], .v false [.int .i64]])) rfl rfl (by kernel_rfl) (by kernel_rfl) (.cons (⟨17, lp_spec_ReadScript_17, spec_ReadScript_L17 spec_InOk spec_PartsOf spec_l05Lines spec_l20Line ⟩ : Lab (OKs [.v false [.own (.pair (.int .i64) (.pair .str .str)) 33], .v false [.int .i64]])) rfl rfl (by kernel_rfl) (by kernel_rfl) (.nil _)))
theorem ok_spec_ReadScript : CtrOK Tryd.prog 4 (con_spec_ReadScript fun _ => g_spec_ReadScript) := (okp_spec_ReadScript _ _ _ _ ok_spec_InOk ok_spec_PartsOf ok_spec_l05Lines ok_spec_l20Line).nice e_spec_ReadScript

theorem okp_laws_FnExactReadScript (impl_ReadScript : Nat → ByteArray → Option (((List (Int × (ByteArray × ByteArray)))) × Int)) (laws_eqInS : Nat → ((List (Int × (ByteArray × ByteArray)))) × ((List (Int × (ByteArray × ByteArray)))) → Option (Bool)) (laws_heldInS : Nat → ((List (Int × (ByteArray × ByteArray)))) × Int → Option (Int)) (laws_markInS : Nat → ((List (Int × (ByteArray × ByteArray)))) × Int → Option (Int × (List (Int × (ByteArray × ByteArray))))) (spec_ReadScript : Nat → ByteArray → Option (((List (Int × (ByteArray × ByteArray)))) × Int)) (h5 : CtrOK Tryd.prog 5 (con_impl_ReadScript impl_ReadScript)) (h6 : CtrOK Tryd.prog 6 (con_laws_eqInS laws_eqInS)) (h8 : CtrOK Tryd.prog 8 (con_laws_heldInS laws_heldInS)) (h7 : CtrOK Tryd.prog 7 (con_laws_markInS laws_markInS)) (h4 : CtrOK Tryd.prog 4 (con_spec_ReadScript spec_ReadScript)) : CtrOK Tryd.prog 3 (con_laws_FnExactReadScript (laws_FnExactReadScript_ impl_ReadScript laws_eqInS laws_heldInS laws_markInS spec_ReadScript )) :=
  fun_ok0 (c := Tryd.f3.body.getD .skip) (con_laws_FnExactReadScript (laws_FnExactReadScript_ impl_ReadScript laws_eqInS laws_heldInS laws_markInS spec_ReadScript )) (gOf [(5, con_impl_ReadScript impl_ReadScript), (6, con_laws_eqInS laws_eqInS), (8, con_laws_heldInS laws_heldInS), (7, con_laws_markInS laws_markInS), (4, con_spec_ReadScript spec_ReadScript)]) rfl Tryd.func3 rfl rfl rfl (gOf_cons h5 (gOf_cons h6 (gOf_cons h8 (gOf_cons h7 (gOf_cons h4 (gOf_nil)))))) (by kernel_rfl) (by kernel_rfl)
theorem ok_laws_FnExactReadScript : CtrOK Tryd.prog 3 (con_laws_FnExactReadScript fun _ => g_laws_FnExactReadScript) := (okp_laws_FnExactReadScript _ _ _ _ _ ok_impl_ReadScript ok_laws_eqInS ok_laws_heldInS ok_laws_markInS ok_spec_ReadScript).nice e_laws_FnExactReadScript

end Go.Sx.T
