/- Functions of the program as functions of Lean, and that the program keeps to them. -/
import Derived.Test.YtklcjpidbpplkaaFnAlarmsA0
import Derived.Test.YtklcjpidbpplkaaProg
set_option maxRecDepth 100000
set_option linter.unusedVariables false
set_option linter.unusedSimpArgs false
namespace Go.Proofs
end Go.Proofs
namespace Go.Sx.T
open Go Go.Sx Go.Proofs Go.RowKit
def lp_impl_RoomOf_3 : LP := ⟨[(3, false, [.int .i64]), (7, false, [.sl 0]), (8, false, [.int .i64]), (9, false, [.int .i64])], [.ro (.int .i64) 0], 1⟩
theorem okp_impl_RoomOf : CtrOK Try.prog 59 (con_impl_RoomOf (impl_RoomOf_ )) :=
  fun_ok (c := Try.f59.body.getD .skip) (con_impl_RoomOf (impl_RoomOf_ )) (gOf []) [] [⟨3, lp_impl_RoomOf_3, impl_RoomOf_L3 ⟩] rfl Try.func59 rfl rfl rfl (gOf_nil) (by kernel_rfl) [3] 1 (by kernel_rfl) (by kernel_rfl)
    (fun x => .cons (⟨3, lp_impl_RoomOf_3, impl_RoomOf_L3 ⟩ : Lab (OKs [.v false [.int .i64]])) rfl rfl (by kernel_rfl) (by kernel_rfl) (.nil _))
theorem ok_impl_RoomOf : CtrOK Try.prog 59 (con_impl_RoomOf fun _ => g_impl_RoomOf) := (okp_impl_RoomOf  ).nice e_impl_RoomOf

theorem okp_impl_within : CtrOK Try.prog 82 (con_impl_within (impl_within_ )) :=
  fun_ok0 (c := Try.f82.body.getD .skip) (con_impl_within (impl_within_ )) (gOf []) rfl Try.func82 rfl rfl rfl (gOf_nil) (by kernel_rfl) (by kernel_rfl)
theorem ok_impl_within : CtrOK Try.prog 82 (con_impl_within fun _ => g_impl_within) := (okp_impl_within  ).nice e_impl_within

theorem okp_impl_SenseOk (impl_within : Nat → Int × Int × Int → Option (Bool)) (h82 : CtrOK Try.prog 82 (con_impl_within impl_within)) : CtrOK Try.prog 72 (con_impl_SenseOk (impl_SenseOk_ impl_within )) :=
  fun_ok0 (c := Try.f72.body.getD .skip) (con_impl_SenseOk (impl_SenseOk_ impl_within )) (gOf [(82, con_impl_within impl_within)]) rfl Try.func72 rfl rfl rfl (gOf_cons h82 (gOf_nil)) (by kernel_rfl) (by kernel_rfl)
theorem ok_impl_SenseOk : CtrOK Try.prog 72 (con_impl_SenseOk fun _ => g_impl_SenseOk) := (okp_impl_SenseOk _ ok_impl_within).nice e_impl_SenseOk

def lp_impl_GuardOk_2 : LP := ⟨[(1, false, [.ptr 1 0]), (6, false, [.sl 0]), (7, false, [.int .i64]), (8, false, [.int .i64])], [.ro (.int .i64) 0, .box [.sl 0, .int .i64] 30], 1⟩
theorem okp_impl_GuardOk (impl_RoomOf : Nat → (List Int × Int) → Option (Int)) (impl_SenseOk : Nat → Int → Option (Bool)) (impl_within : Nat → Int × Int × Int → Option (Bool)) (h59 : CtrOK Try.prog 59 (con_impl_RoomOf impl_RoomOf)) (h72 : CtrOK Try.prog 72 (con_impl_SenseOk impl_SenseOk)) (h82 : CtrOK Try.prog 82 (con_impl_within impl_within)) : CtrOK Try.prog 46 (con_impl_GuardOk (impl_GuardOk_ impl_RoomOf impl_SenseOk impl_within )) :=
  fun_ok (c := Try.f46.body.getD .skip) (con_impl_GuardOk (impl_GuardOk_ impl_RoomOf impl_SenseOk impl_within )) (gOf [(59, con_impl_RoomOf impl_RoomOf), (72, con_impl_SenseOk impl_SenseOk), (82, con_impl_within impl_within)]) [] [⟨2, lp_impl_GuardOk_2, impl_GuardOk_L2 impl_RoomOf impl_SenseOk impl_within ⟩] rfl Try.func46 rfl rfl rfl (gOf_cons h59 (gOf_cons h72 (gOf_cons h82 (gOf_nil)))) (by kernel_rfl) [2] 1 (by kernel_rfl) (by kernel_rfl)
    (fun x => .cons (⟨2, lp_impl_GuardOk_2, impl_GuardOk_L2 impl_RoomOf impl_SenseOk impl_within ⟩ : Lab (OKs [.v false [.bool]])) rfl rfl (by kernel_rfl) (by kernel_rfl) (.nil _))
theorem ok_impl_GuardOk : CtrOK Try.prog 46 (con_impl_GuardOk fun _ => g_impl_GuardOk) := (okp_impl_GuardOk _ _ _ ok_impl_RoomOf ok_impl_SenseOk ok_impl_within).nice e_impl_GuardOk

theorem okp_impl_copyInts : CtrOK Try.prog 93 (con_impl_copyInts (impl_copyInts_ )) :=
  fun_ok0 (c := Try.f93.body.getD .skip) (con_impl_copyInts (impl_copyInts_ )) (gOf []) rfl Try.func93 rfl rfl rfl (gOf_nil) (by kernel_rfl) (by kernel_rfl)
theorem ok_impl_copyInts : CtrOK Try.prog 93 (con_impl_copyInts fun _ => g_impl_copyInts) := (okp_impl_copyInts  ).nice e_impl_copyInts

theorem okp_impl_copyGuard (impl_copyInts : Nat → List Int → Option (List Int)) (h93 : CtrOK Try.prog 93 (con_impl_copyInts impl_copyInts)) : CtrOK Try.prog 67 (con_impl_copyGuard (impl_copyGuard_ impl_copyInts )) :=
  fun_ok0 (c := Try.f67.body.getD .skip) (con_impl_copyGuard (impl_copyGuard_ impl_copyInts )) (gOf [(93, con_impl_copyInts impl_copyInts)]) rfl Try.func67 rfl rfl rfl (gOf_cons h93 (gOf_nil)) (by kernel_rfl) (by kernel_rfl)
theorem ok_impl_copyGuard : CtrOK Try.prog 67 (con_impl_copyGuard fun _ => g_impl_copyGuard) := (okp_impl_copyGuard _ ok_impl_copyInts).nice e_impl_copyGuard

theorem okp_impl_Allow (impl_GuardOk : Nat → (List Int × Int) → Option (Bool)) (impl_RoomOf : Nat → (List Int × Int) → Option (Int)) (h46 : CtrOK Try.prog 46 (con_impl_GuardOk impl_GuardOk)) (h59 : CtrOK Try.prog 59 (con_impl_RoomOf impl_RoomOf)) : CtrOK Try.prog 22 (con_impl_Allow (impl_Allow_ impl_GuardOk impl_RoomOf )) :=
  fun_ok0 (c := Try.f22.body.getD .skip) (con_impl_Allow (impl_Allow_ impl_GuardOk impl_RoomOf )) (gOf [(46, con_impl_GuardOk impl_GuardOk), (59, con_impl_RoomOf impl_RoomOf)]) rfl Try.func22 rfl rfl rfl (gOf_cons h46 (gOf_cons h59 (gOf_nil))) (by kernel_rfl) (by kernel_rfl)
theorem ok_impl_Allow : CtrOK Try.prog 22 (con_impl_Allow fun _ => g_impl_Allow) := (okp_impl_Allow _ _ ok_impl_GuardOk ok_impl_RoomOf).nice e_impl_Allow

theorem okp_impl_Feel (impl_GuardOk : Nat → (List Int × Int) → Option (Bool)) (impl_SenseOk : Nat → Int → Option (Bool)) (impl_copyGuard : Nat → (List Int × Int) → Option ((List Int × Int))) (h46 : CtrOK Try.prog 46 (con_impl_GuardOk impl_GuardOk)) (h72 : CtrOK Try.prog 72 (con_impl_SenseOk impl_SenseOk)) (h67 : CtrOK Try.prog 67 (con_impl_copyGuard impl_copyGuard)) : CtrOK Try.prog 34 (con_impl_Feel (impl_Feel_ impl_GuardOk impl_SenseOk impl_copyGuard )) :=
  fun_ok0 (c := Try.f34.body.getD .skip) (con_impl_Feel (impl_Feel_ impl_GuardOk impl_SenseOk impl_copyGuard )) (gOf [(46, con_impl_GuardOk impl_GuardOk), (72, con_impl_SenseOk impl_SenseOk), (67, con_impl_copyGuard impl_copyGuard)]) rfl Try.func34 rfl rfl rfl (gOf_cons h46 (gOf_cons h72 (gOf_cons h67 (gOf_nil)))) (by kernel_rfl) (by kernel_rfl)
theorem ok_impl_Feel : CtrOK Try.prog 34 (con_impl_Feel fun _ => g_impl_Feel) := (okp_impl_Feel _ _ _ ok_impl_GuardOk ok_impl_SenseOk ok_impl_copyGuard).nice e_impl_Feel

theorem okp_spec_l01Byte : CtrOK Try.prog 61 (con_spec_l01Byte (spec_l01Byte_ )) :=
  fun_ok0 (c := Try.f61.body.getD .skip) (con_spec_l01Byte (spec_l01Byte_ )) (gOf []) rfl Try.func61 rfl rfl rfl (gOf_nil) (by kernel_rfl) (by kernel_rfl)
theorem ok_spec_l01Byte : CtrOK Try.prog 61 (con_spec_l01Byte fun _ => g_spec_l01Byte) := (okp_spec_l01Byte  ).nice e_spec_l01Byte

theorem okp_spec_l01Below (spec_l01Byte : Nat → (List Int × Int × Int) → Option (Int × (Unit × Int × Int))) (h61 : CtrOK Try.prog 61 (con_spec_l01Byte spec_l01Byte)) : CtrOK Try.prog 62 (con_spec_l01Below (spec_l01Below_ spec_l01Byte )) :=
  fun_ok0 (c := Try.f62.body.getD .skip) (con_spec_l01Below (spec_l01Below_ spec_l01Byte )) (gOf [(61, con_spec_l01Byte spec_l01Byte)]) rfl Try.func62 rfl rfl rfl (gOf_cons h61 (gOf_nil)) (by kernel_rfl) (by kernel_rfl)
theorem ok_spec_l01Below : CtrOK Try.prog 62 (con_spec_l01Below fun _ => g_spec_l01Below) := (okp_spec_l01Below _ ok_spec_l01Byte).nice e_spec_l01Below

theorem okp_spec_l01Once (spec_l01Below : Nat → (List Int × Int × Int) × Int → Option (Int × (Unit × Int × Int))) (h62 : CtrOK Try.prog 62 (con_spec_l01Below spec_l01Below)) : CtrOK Try.prog 98 (con_spec_l01Once (spec_l01Once_ spec_l01Below )) :=
  fun_ok0 (c := Try.f98.body.getD .skip) (con_spec_l01Once (spec_l01Once_ spec_l01Below )) (gOf [(62, con_spec_l01Below spec_l01Below)]) rfl Try.func98 rfl rfl rfl (gOf_cons h62 (gOf_nil)) (by kernel_rfl) (by kernel_rfl)
theorem ok_spec_l01Once : CtrOK Try.prog 98 (con_spec_l01Once fun _ => g_spec_l01Once) := (okp_spec_l01Once _ ok_spec_l01Below).nice e_spec_l01Once

theorem okp_spec_l01In : CtrOK Try.prog 80 (con_spec_l01In (spec_l01In_ )) :=
  fun_ok0 (c := Try.f80.body.getD .skip) (con_spec_l01In (spec_l01In_ )) (gOf []) rfl Try.func80 rfl rfl rfl (gOf_nil) (by kernel_rfl) (by kernel_rfl)
theorem ok_spec_l01In : CtrOK Try.prog 80 (con_spec_l01In fun _ => g_spec_l01In) := (okp_spec_l01In  ).nice e_spec_l01In

def lp_spec_l01New_3 : LP := ⟨[(0, false, [.sl 0]), (3, false, [.int .i64]), (4, false, [.int .i64])], [.ro (.int .u8) 0], 1⟩
theorem okp_spec_l01New : CtrOK Try.prog 52 (con_spec_l01New (spec_l01New_ )) :=
  fun_ok (c := Try.f52.body.getD .skip) (con_spec_l01New (spec_l01New_ )) (gOf []) [] [⟨3, lp_spec_l01New_3, spec_l01New_L3 ⟩] rfl Try.func52 rfl rfl rfl (gOf_nil) (by kernel_rfl) [3] 1 (by kernel_rfl) (by kernel_rfl)
    (fun x => .cons (⟨3, lp_spec_l01New_3, spec_l01New_L3 ⟩ : Lab (OKs [.box [.al 0 0, .int .i64, .int .i64] 114])) rfl rfl (by kernel_rfl) (by kernel_rfl) (.nil _))
theorem ok_spec_l01New : CtrOK Try.prog 52 (con_spec_l01New fun _ => g_spec_l01New) := (okp_spec_l01New  ).nice e_spec_l01New

theorem okp_laws_big : CtrOK Try.prog 14 (con_laws_big (laws_big_ )) :=
  fun_ok0 (c := Try.f14.body.getD .skip) (con_laws_big (laws_big_ )) (gOf []) rfl Try.func14 rfl rfl rfl (gOf_nil) (by kernel_rfl) (by kernel_rfl)
theorem ok_laws_big : CtrOK Try.prog 14 (con_laws_big fun _ => g_laws_big) := (okp_laws_big  ).nice e_laws_big

theorem okp_spec_l15Less : CtrOK Try.prog 56 (con_spec_l15Less (spec_l15Less_ )) :=
  fun_ok0 (c := Try.f56.body.getD .skip) (con_spec_l15Less (spec_l15Less_ )) (gOf []) rfl Try.func56 rfl rfl rfl (gOf_nil) (by kernel_rfl) (by kernel_rfl)
theorem ok_spec_l15Less : CtrOK Try.prog 56 (con_spec_l15Less fun _ => g_spec_l15Less) := (okp_spec_l15Less  ).nice e_spec_l15Less

def lp_spec_l16Sum_3 : LP := ⟨[(0, false, [.sl 0]), (3, false, [.int .i64]), (4, false, [.int .i64])], [.ro (.int .i64) 0], 1⟩
theorem okp_spec_l16Sum : CtrOK Try.prog 91 (con_spec_l16Sum (spec_l16Sum_ )) :=
  fun_ok (c := Try.f91.body.getD .skip) (con_spec_l16Sum (spec_l16Sum_ )) (gOf []) [] [⟨3, lp_spec_l16Sum_3, spec_l16Sum_L3 ⟩] rfl Try.func91 rfl rfl rfl (gOf_nil) (by kernel_rfl) [3] 1 (by kernel_rfl) (by kernel_rfl)
    (fun x => .cons (⟨3, lp_spec_l16Sum_3, spec_l16Sum_L3 ⟩ : Lab (OKs [.v false [.int .i64]])) rfl rfl (by kernel_rfl) (by kernel_rfl) (.nil _))
theorem ok_spec_l16Sum : CtrOK Try.prog 91 (con_spec_l16Sum fun _ => g_spec_l16Sum) := (okp_spec_l16Sum  ).nice e_spec_l16Sum

theorem okp_spec_RoomOf (spec_l16Sum : Nat → List Int → Option (Int)) (h91 : CtrOK Try.prog 91 (con_spec_l16Sum spec_l16Sum)) : CtrOK Try.prog 57 (con_spec_RoomOf (spec_RoomOf_ spec_l16Sum )) :=
  fun_ok0 (c := Try.f57.body.getD .skip) (con_spec_RoomOf (spec_RoomOf_ spec_l16Sum )) (gOf [(91, con_spec_l16Sum spec_l16Sum)]) rfl Try.func57 rfl rfl rfl (gOf_cons h91 (gOf_nil)) (by kernel_rfl) (by kernel_rfl)
theorem ok_spec_RoomOf : CtrOK Try.prog 57 (con_spec_RoomOf fun _ => g_spec_RoomOf) := (okp_spec_RoomOf _ ok_spec_l16Sum).nice e_spec_RoomOf

theorem okp_spec_SenseOk (spec_l01In : Nat → Int × Int × Int → Option (Bool)) (h80 : CtrOK Try.prog 80 (con_spec_l01In spec_l01In)) : CtrOK Try.prog 70 (con_spec_SenseOk (spec_SenseOk_ spec_l01In )) :=
  fun_ok0 (c := Try.f70.body.getD .skip) (con_spec_SenseOk (spec_SenseOk_ spec_l01In )) (gOf [(80, con_spec_l01In spec_l01In)]) rfl Try.func70 rfl rfl rfl (gOf_cons h80 (gOf_nil)) (by kernel_rfl) (by kernel_rfl)
theorem ok_spec_SenseOk : CtrOK Try.prog 70 (con_spec_SenseOk fun _ => g_spec_SenseOk) := (okp_spec_SenseOk _ ok_spec_l01In).nice e_spec_SenseOk

def lp_spec_GuardOk_4 : LP := ⟨[(1, false, [.ptr 1 0]), (3, false, [.int .i64])], [.ro (.int .i64) 0, .box [.sl 0, .int .i64] 30], 1⟩
theorem okp_spec_GuardOk (spec_SenseOk : Nat → Int → Option (Bool)) (spec_l01In : Nat → Int × Int × Int → Option (Bool)) (spec_l16Sum : Nat → List Int → Option (Int)) (h70 : CtrOK Try.prog 70 (con_spec_SenseOk spec_SenseOk)) (h80 : CtrOK Try.prog 80 (con_spec_l01In spec_l01In)) (h91 : CtrOK Try.prog 91 (con_spec_l16Sum spec_l16Sum)) : CtrOK Try.prog 55 (con_spec_GuardOk (spec_GuardOk_ spec_SenseOk spec_l01In spec_l16Sum )) :=
  fun_ok (c := Try.f55.body.getD .skip) (con_spec_GuardOk (spec_GuardOk_ spec_SenseOk spec_l01In spec_l16Sum )) (gOf [(70, con_spec_SenseOk spec_SenseOk), (80, con_spec_l01In spec_l01In), (91, con_spec_l16Sum spec_l16Sum)]) [] [⟨4, lp_spec_GuardOk_4, spec_GuardOk_L4 spec_SenseOk spec_l01In spec_l16Sum ⟩] rfl Try.func55 rfl rfl rfl (gOf_cons h70 (gOf_cons h80 (gOf_cons h91 (gOf_nil)))) (by kernel_rfl) [4] 1 (by kernel_rfl) (by kernel_rfl)
    (fun x => .cons (⟨4, lp_spec_GuardOk_4, spec_GuardOk_L4 spec_SenseOk spec_l01In spec_l16Sum ⟩ : Lab (OKs [.v false [.bool]])) rfl rfl (by kernel_rfl) (by kernel_rfl) (.nil _))
theorem ok_spec_GuardOk : CtrOK Try.prog 55 (con_spec_GuardOk fun _ => g_spec_GuardOk) := (okp_spec_GuardOk _ _ _ ok_spec_SenseOk ok_spec_l01In ok_spec_l16Sum).nice e_spec_GuardOk

def lp_spec_DrawPlaces_5 : LP := ⟨[(3, false, [.ptr 1 0]), (4, false, [.sl 2]), (5, false, [.int .i64])], [.ro (.int .u8) 0, .box [.sl 0, .int .i64, .int .i64] 114, .row (.int .i64) 3], 1⟩
theorem okp_spec_DrawPlaces (spec_l01Below : Nat → (List Int × Int × Int) × Int → Option (Int × (Unit × Int × Int))) (spec_l01Byte : Nat → (List Int × Int × Int) → Option (Int × (Unit × Int × Int))) (spec_l01New : Nat → List Int → Option ((Unit × Int × Int))) (h62 : CtrOK Try.prog 62 (con_spec_l01Below spec_l01Below)) (h61 : CtrOK Try.prog 61 (con_spec_l01Byte spec_l01Byte)) (h52 : CtrOK Try.prog 52 (con_spec_l01New spec_l01New)) : CtrOK Try.prog 24 (con_spec_DrawPlaces (spec_DrawPlaces_ spec_l01Below spec_l01Byte spec_l01New )) :=
  fun_ok (c := Try.f24.body.getD .skip) (con_spec_DrawPlaces (spec_DrawPlaces_ spec_l01Below spec_l01Byte spec_l01New )) (gOf [(62, con_spec_l01Below spec_l01Below), (61, con_spec_l01Byte spec_l01Byte), (52, con_spec_l01New spec_l01New)]) [] [⟨5, lp_spec_DrawPlaces_5, spec_DrawPlaces_L5 spec_l01Below spec_l01Byte spec_l01New ⟩] rfl Try.func24 rfl rfl rfl (gOf_cons h62 (gOf_cons h61 (gOf_cons h52 (gOf_nil)))) (by kernel_rfl) [5] 1 (by kernel_rfl) (by kernel_rfl)
    (fun x => .cons (⟨5, lp_spec_DrawPlaces_5, spec_DrawPlaces_L5 spec_l01Below spec_l01Byte spec_l01New ⟩ : Lab (OKs [.v false [.own (.int .i64) 3]])) rfl rfl (by kernel_rfl) (by kernel_rfl) (.nil _))
theorem ok_spec_DrawPlaces : CtrOK Try.prog 24 (con_spec_DrawPlaces fun _ => g_spec_DrawPlaces) := (okp_spec_DrawPlaces _ _ _ ok_spec_l01Below ok_spec_l01Byte ok_spec_l01New).nice e_spec_DrawPlaces

theorem okp_spec_l16Copy : CtrOK Try.prog 66 (con_spec_l16Copy (spec_l16Copy_ )) :=
  fun_ok0 (c := Try.f66.body.getD .skip) (con_spec_l16Copy (spec_l16Copy_ )) (gOf []) rfl Try.func66 rfl rfl rfl (gOf_nil) (by kernel_rfl) (by kernel_rfl)
theorem ok_spec_l16Copy : CtrOK Try.prog 66 (con_spec_l16Copy fun _ => g_spec_l16Copy) := (okp_spec_l16Copy  ).nice e_spec_l16Copy

theorem okp_spec_Pass (spec_GuardOk : Nat → (List Int × Int) → Option (Bool)) (spec_RoomOf : Nat → (List Int × Int) → Option (Int)) (spec_l15Less : Nat → Int × Int → Option (Int)) (spec_l16Copy : Nat → (List Int × Int) → Option ((List Int × Int))) (h55 : CtrOK Try.prog 55 (con_spec_GuardOk spec_GuardOk)) (h57 : CtrOK Try.prog 57 (con_spec_RoomOf spec_RoomOf)) (h56 : CtrOK Try.prog 56 (con_spec_l15Less spec_l15Less)) (h66 : CtrOK Try.prog 66 (con_spec_l16Copy spec_l16Copy)) : CtrOK Try.prog 29 (con_spec_Pass (spec_Pass_ spec_GuardOk spec_RoomOf spec_l15Less spec_l16Copy )) :=
  fun_ok0 (c := Try.f29.body.getD .skip) (con_spec_Pass (spec_Pass_ spec_GuardOk spec_RoomOf spec_l15Less spec_l16Copy )) (gOf [(55, con_spec_GuardOk spec_GuardOk), (57, con_spec_RoomOf spec_RoomOf), (56, con_spec_l15Less spec_l15Less), (66, con_spec_l16Copy spec_l16Copy)]) rfl Try.func29 rfl rfl rfl (gOf_cons h55 (gOf_cons h57 (gOf_cons h56 (gOf_cons h66 (gOf_nil))))) (by kernel_rfl) (by kernel_rfl)
theorem ok_spec_Pass : CtrOK Try.prog 29 (con_spec_Pass fun _ => g_spec_Pass) := (okp_spec_Pass _ _ _ _ ok_spec_GuardOk ok_spec_RoomOf ok_spec_l15Less ok_spec_l16Copy).nice e_spec_Pass

def lp_spec_l13Both_4 : LP := ⟨[(0, false, [.int .i64]), (1, false, [.int .i64]), (5, false, [.int .i64]), (6, false, [.int .i64]), (7, false, [.int .i64])], [], 0⟩
theorem okp_spec_l13Both : CtrOK Try.prog 71 (con_spec_l13Both (spec_l13Both_ )) :=
  fun_ok (c := Try.f71.body.getD .skip) (con_spec_l13Both (spec_l13Both_ )) (gOf []) [] [⟨4, lp_spec_l13Both_4, spec_l13Both_L4 ⟩] rfl Try.func71 rfl rfl rfl (gOf_nil) (by kernel_rfl) [4] 0 (by kernel_rfl) (by kernel_rfl)
    (fun x => .cons (⟨4, lp_spec_l13Both_4, spec_l13Both_L4 ⟩ : Lab (OKs [.v false [.int .i64]])) rfl rfl (by kernel_rfl) (by kernel_rfl) (.nil _))
theorem ok_spec_l13Both : CtrOK Try.prog 71 (con_spec_l13Both fun _ => g_spec_l13Both) := (okp_spec_l13Both  ).nice e_spec_l13Both

theorem okp_spec_Feel (spec_GuardOk : Nat → (List Int × Int) → Option (Bool)) (spec_SenseOk : Nat → Int → Option (Bool)) (spec_l13Both : Nat → Int × Int → Option (Int)) (spec_l16Copy : Nat → (List Int × Int) → Option ((List Int × Int))) (h55 : CtrOK Try.prog 55 (con_spec_GuardOk spec_GuardOk)) (h70 : CtrOK Try.prog 70 (con_spec_SenseOk spec_SenseOk)) (h71 : CtrOK Try.prog 71 (con_spec_l13Both spec_l13Both)) (h66 : CtrOK Try.prog 66 (con_spec_l16Copy spec_l16Copy)) : CtrOK Try.prog 33 (con_spec_Feel (spec_Feel_ spec_GuardOk spec_SenseOk spec_l13Both spec_l16Copy )) :=
  fun_ok0 (c := Try.f33.body.getD .skip) (con_spec_Feel (spec_Feel_ spec_GuardOk spec_SenseOk spec_l13Both spec_l16Copy )) (gOf [(55, con_spec_GuardOk spec_GuardOk), (70, con_spec_SenseOk spec_SenseOk), (71, con_spec_l13Both spec_l13Both), (66, con_spec_l16Copy spec_l16Copy)]) rfl Try.func33 rfl rfl rfl (gOf_cons h55 (gOf_cons h70 (gOf_cons h71 (gOf_cons h66 (gOf_nil))))) (by kernel_rfl) (by kernel_rfl)
theorem ok_spec_Feel : CtrOK Try.prog 33 (con_spec_Feel fun _ => g_spec_Feel) := (okp_spec_Feel _ _ _ _ ok_spec_GuardOk ok_spec_SenseOk ok_spec_l13Both ok_spec_l16Copy).nice e_spec_Feel

def lp_laws_sameInts_4 : LP := ⟨[(0, false, [.sl 0]), (1, false, [.sl 1]), (5, false, [.int .i64])], [.ro (.int .i64) 0, .ro (.int .i64) 0], 2⟩
theorem okp_laws_sameInts : CtrOK Try.prog 47 (con_laws_sameInts (laws_sameInts_ )) :=
  fun_ok (c := Try.f47.body.getD .skip) (con_laws_sameInts (laws_sameInts_ )) (gOf []) [] [⟨4, lp_laws_sameInts_4, laws_sameInts_L4 ⟩] rfl Try.func47 rfl rfl rfl (gOf_nil) (by kernel_rfl) [4] 2 (by kernel_rfl) (by kernel_rfl)
    (fun x => .cons (⟨4, lp_laws_sameInts_4, laws_sameInts_L4 ⟩ : Lab (OKs [.v false [.bool]])) rfl rfl (by kernel_rfl) (by kernel_rfl) (.nil _))
theorem ok_laws_sameInts : CtrOK Try.prog 47 (con_laws_sameInts fun _ => g_laws_sameInts) := (okp_laws_sameInts  ).nice e_laws_sameInts

theorem okp_spec_Has (spec_SenseOk : Nat → Int → Option (Bool)) (h70 : CtrOK Try.prog 70 (con_spec_SenseOk spec_SenseOk)) : CtrOK Try.prog 45 (con_spec_Has (spec_Has_ spec_SenseOk )) :=
  fun_ok0 (c := Try.f45.body.getD .skip) (con_spec_Has (spec_Has_ spec_SenseOk )) (gOf [(70, con_spec_SenseOk spec_SenseOk)]) rfl Try.func45 rfl rfl rfl (gOf_cons h70 (gOf_nil)) (by kernel_rfl) (by kernel_rfl)
theorem ok_spec_Has : CtrOK Try.prog 45 (con_spec_Has fun _ => g_spec_Has) := (okp_spec_Has _ ok_spec_SenseOk).nice e_spec_Has

def lp_spec_l16Guard_3 : LP := ⟨[(0, false, [.ptr 0 0]), (2, false, [.ptr 2 0]), (3, false, [.ptr 3 0]), (4, false, [.int .i64])], [.box [.sl 1, .int .i64, .int .i64] 114, .ro (.int .u8) 0, .box [.sl 4, .int .i64] 30, .box [.sl 5, .int .i64] 30, .row (.int .i64) 0, .row (.int .i64) 3], 2⟩
theorem okp_spec_l16Guard (spec_Feel : Nat → (List Int × Int) × Int × Bool → Option ((List Int × Int))) (spec_Pass : Nat → (List Int × Int) × Int → Option ((List Int × Int))) (spec_l01Below : Nat → (List Int × Int × Int) × Int → Option (Int × (Unit × Int × Int))) (spec_l01Once : Nat → (List Int × Int × Int) × Int → Option (Bool × (Unit × Int × Int))) (h33 : CtrOK Try.prog 33 (con_spec_Feel spec_Feel)) (h29 : CtrOK Try.prog 29 (con_spec_Pass spec_Pass)) (h62 : CtrOK Try.prog 62 (con_spec_l01Below spec_l01Below)) (h98 : CtrOK Try.prog 98 (con_spec_l01Once spec_l01Once)) : CtrOK Try.prog 81 (con_spec_l16Guard (spec_l16Guard_ spec_Feel spec_Pass spec_l01Below spec_l01Once )) :=
  fun_ok (c := Try.f81.body.getD .skip) (con_spec_l16Guard (spec_l16Guard_ spec_Feel spec_Pass spec_l01Below spec_l01Once )) (gOf [(33, con_spec_Feel spec_Feel), (29, con_spec_Pass spec_Pass), (62, con_spec_l01Below spec_l01Below), (98, con_spec_l01Once spec_l01Once)]) [] [⟨3, lp_spec_l16Guard_3, spec_l16Guard_L3 spec_Feel spec_Pass spec_l01Below spec_l01Once ⟩] rfl Try.func81 rfl rfl rfl (gOf_cons h33 (gOf_cons h29 (gOf_cons h62 (gOf_cons h98 (gOf_nil))))) (by kernel_rfl) [3] 2 (by kernel_rfl) (by kernel_rfl)
    (fun x => .cons (⟨3, lp_spec_l16Guard_3, spec_l16Guard_L3 spec_Feel spec_Pass spec_l01Below spec_l01Once ⟩ : Lab (OKs [.v true [.own (.int .i64) 3, .int .i64], .box [.keep, .int .i64, .int .i64] 114])) rfl rfl (by kernel_rfl) (by kernel_rfl) (.nil _))
theorem ok_spec_l16Guard : CtrOK Try.prog 81 (con_spec_l16Guard fun _ => g_spec_l16Guard) := (okp_spec_l16Guard _ _ _ _ ok_spec_Feel ok_spec_Pass ok_spec_l01Below ok_spec_l01Once).nice e_spec_l16Guard

theorem okp_spec_DrawGuard (spec_l01New : Nat → List Int → Option ((Unit × Int × Int))) (spec_l16Guard : Nat → (List Int × Int × Int) → Option ((List Int × Int) × (Unit × Int × Int))) (h52 : CtrOK Try.prog 52 (con_spec_l01New spec_l01New)) (h81 : CtrOK Try.prog 81 (con_spec_l16Guard spec_l16Guard)) : CtrOK Try.prog 44 (con_spec_DrawGuard (spec_DrawGuard_ spec_l01New spec_l16Guard )) :=
  fun_ok0 (c := Try.f44.body.getD .skip) (con_spec_DrawGuard (spec_DrawGuard_ spec_l01New spec_l16Guard )) (gOf [(52, con_spec_l01New spec_l01New), (81, con_spec_l16Guard spec_l16Guard)]) rfl Try.func44 rfl rfl rfl (gOf_cons h52 (gOf_cons h81 (gOf_nil))) (by kernel_rfl) (by kernel_rfl)
theorem ok_spec_DrawGuard : CtrOK Try.prog 44 (con_spec_DrawGuard fun _ => g_spec_DrawGuard) := (okp_spec_DrawGuard _ _ ok_spec_l01New ok_spec_l16Guard).nice e_spec_DrawGuard

def lp_laws_FnAlarms_10 : LP := ⟨[(3, false, [.ptr 1 0]), (4, false, [.sl 2]), (5, false, [.int .i64]), (6, false, [.ptr 3 0]), (7, false, [.ptr 4 0]), (8, false, [.ptr 5 0]), (9, false, [.int .i64])], [.dead, .box [.sl 6, .int .i64] 30, .row (.int .i64) 3, .box [.sl 7, .int .i64] 30, .box [.sl 8, .int .i64] 30, .box [.sl 9, .int .i64] 30, .row (.int .i64) 3, .row (.int .i64) 3, .row (.int .i64) 3, .row (.int .i64) 3], 1⟩
theorem okp_laws_FnAlarms (impl_Allow : Nat → (List Int × Int) × Int → Option (Int)) (impl_Feel : Nat → (List Int × Int) × Int × Bool → Option ((List Int × Int))) (impl_GuardOk : Nat → (List Int × Int) → Option (Bool)) (laws_big : Nat → List Int → Option (Bool)) (laws_sameInts : Nat → List Int × List Int → Option (Bool)) (spec_DrawGuard : Nat → List Int → Option ((List Int × Int))) (spec_DrawPlaces : Nat → List Int → Option (List Int)) (spec_Has : Nat → Int × Int → Option (Bool)) (h22 : CtrOK Try.prog 22 (con_impl_Allow impl_Allow)) (h34 : CtrOK Try.prog 34 (con_impl_Feel impl_Feel)) (h46 : CtrOK Try.prog 46 (con_impl_GuardOk impl_GuardOk)) (h14 : CtrOK Try.prog 14 (con_laws_big laws_big)) (h47 : CtrOK Try.prog 47 (con_laws_sameInts laws_sameInts)) (h44 : CtrOK Try.prog 44 (con_spec_DrawGuard spec_DrawGuard)) (h24 : CtrOK Try.prog 24 (con_spec_DrawPlaces spec_DrawPlaces)) (h45 : CtrOK Try.prog 45 (con_spec_Has spec_Has)) : CtrOK Try.prog 13 (con_laws_FnAlarms (laws_FnAlarms_ impl_Allow impl_Feel impl_GuardOk laws_big laws_sameInts spec_DrawGuard spec_DrawPlaces spec_Has )) :=
  fun_ok (c := Try.f13.body.getD .skip) (con_laws_FnAlarms (laws_FnAlarms_ impl_Allow impl_Feel impl_GuardOk laws_big laws_sameInts spec_DrawGuard spec_DrawPlaces spec_Has )) (gOf [(22, con_impl_Allow impl_Allow), (34, con_impl_Feel impl_Feel), (46, con_impl_GuardOk impl_GuardOk), (14, con_laws_big laws_big), (47, con_laws_sameInts laws_sameInts), (44, con_spec_DrawGuard spec_DrawGuard), (24, con_spec_DrawPlaces spec_DrawPlaces), (45, con_spec_Has spec_Has)]) [] [⟨10, lp_laws_FnAlarms_10, laws_FnAlarms_L10 impl_Allow impl_Feel impl_GuardOk laws_big laws_sameInts spec_DrawGuard spec_DrawPlaces spec_Has ⟩] rfl Try.func13 rfl rfl rfl (gOf_cons h22 (gOf_cons h34 (gOf_cons h46 (gOf_cons h14 (gOf_cons h47 (gOf_cons h44 (gOf_cons h24 (gOf_cons h45 (gOf_nil))))))))) (by kernel_rfl) [10] 1 (by kernel_rfl) (by kernel_rfl)
    (fun x => .cons (⟨10, lp_laws_FnAlarms_10, laws_FnAlarms_L10 impl_Allow impl_Feel impl_GuardOk laws_big laws_sameInts spec_DrawGuard spec_DrawPlaces spec_Has ⟩ : Lab (OKs [.v false [.bool]])) rfl rfl (by kernel_rfl) (by kernel_rfl) (.nil _))
theorem ok_laws_FnAlarms : CtrOK Try.prog 13 (con_laws_FnAlarms fun _ => g_laws_FnAlarms) := (okp_laws_FnAlarms _ _ _ _ _ _ _ _ ok_impl_Allow ok_impl_Feel ok_impl_GuardOk ok_laws_big ok_laws_sameInts ok_spec_DrawGuard ok_spec_DrawPlaces ok_spec_Has).nice e_laws_FnAlarms

end Go.Sx.T
