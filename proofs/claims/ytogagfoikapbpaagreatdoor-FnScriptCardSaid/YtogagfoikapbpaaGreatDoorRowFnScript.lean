/- The card of FnScript: for every input the law returns true; the input reads as it did. Conditions: none. -/
import Derived.Test.YtogagfoikapbpaaGreatDoorRows
import Derived.Test.YtogagfoikapbpaaGreatDoorFnScriptB0
import Derived.Test.YtogagfoikapbpaaGreatDoorFnScriptC1
import Derived.Handed
import Derived.Lay
import Derived.LaidLaws
import Derived.Lib.LaidTab
import Derived.Stop.LaidErr
import Derived.JoinedAt
import Derived.Test.YtogagfoikapbpaaGreatDoorCards
import Derived.Test.YtogagfoikapbpaaGreatDoorTie
import Derived.SevenTiedAt
import Derived.Test.YtogagfoikapbpaaGreatDoorSz3
import Derived.Shelf.Vars
import Derived.WalkKit
import Derived.ProofKit
import Derived.OpenShut
import Derived.ShutString
import Derived.ChangeOld
import Derived.Below
import Derived.SizedLaws
import Derived.Carry
import Derived.ChangeSlices
set_option linter.unusedVariables false
set_option linter.unusedSimpArgs false
namespace Go.Proofs.YtogagfoikapbpaaGreatDoor.fnScript
open Go.ChangeShapes Go.WideShapes Go.ChangeAt Go.RowKit
theorem own : ownKnob Tryz.prog.godebug = none := by kernel_rfl
theorem laidOut : laidOutB Tryz.prog = true := by kernel_rfl
abbrev LD := Rows.fnScriptRow.laid
theorem pow_ld : (Rows.laid_internal_strconv_uint64pow10 : DataW Unit) = Go.Lib.tabData .u64 Go.Lib.pow10Tab := by kernel_rfl
theorem star_es : "*" ++ "errors.errorString" = "*errors.errorString" := by decide
theorem row_es (u : TypeId) (h : Tryz.prog.typeName? 3 u = some "*errors.errorString") : u = 194 :=
  typeName_ptr_named (nm := "errors.errorString") (by rw [star_es]; kernel_rfl) (by kernel_rfl) (by decide) u (by rw [star_es]; exact h)
theorem errAt5 {W : World} (h : laidMet Tryz.prog ([("strconv.ErrSyntax", Rows.laid_strconv_ErrSyntax), ("unicode/utf8.first", Rows.laid_unicode_utf8_first)]) W) : ∀ g, Tryz.prog.globalNamed "strconv.ErrSyntax" = some g → g < W.heap.size ∧ ¬ False ∧ ∃ cs t z, W.heap[g]? = some (.cells cs t z) ∧ Go.Sx.laidAs "strconv.ErrSyntax" cs := by
  obtain ⟨a, s, hv, _, _, _⟩ := laid_sentinel (P := Tryz.prog) (n := "strconv.ErrSyntax") (nm := "*errors.errorString") (text := [105, 110, 118, 97, 108, 105, 100, 32, 115, 121, 110, 116, 97, 120]) (r := [("unicode/utf8.first", Rows.laid_unicode_utf8_first)]) (g := 4) (ti := 79) (tp := 194) (te := 196) (ts := 9) h (by kernel_rfl) (by kernel_rfl) Tryz.underlying79 row_es Tryz.underlying194 Tryz.underlying196 rfl rfl Tryz.underlying9 (by kernel_rfl) (by kernel_rfl)
  exact Go.Sx.tab_err (.inl rfl) hv
theorem errAt4 {W : World} (h : laidMet Tryz.prog ([("strconv.ErrRange", Rows.laid_strconv_ErrRange), ("strconv.ErrSyntax", Rows.laid_strconv_ErrSyntax), ("unicode/utf8.first", Rows.laid_unicode_utf8_first)]) W) : ∀ g, Tryz.prog.globalNamed "strconv.ErrRange" = some g → g < W.heap.size ∧ ¬ False ∧ ∃ cs t z, W.heap[g]? = some (.cells cs t z) ∧ Go.Sx.laidAs "strconv.ErrRange" cs := by
  obtain ⟨a, s, hv, _, _, _⟩ := laid_sentinel (P := Tryz.prog) (n := "strconv.ErrRange") (nm := "*errors.errorString") (text := [118, 97, 108, 117, 101, 32, 111, 117, 116, 32, 111, 102, 32, 114, 97, 110, 103, 101]) (r := [("strconv.ErrSyntax", Rows.laid_strconv_ErrSyntax), ("unicode/utf8.first", Rows.laid_unicode_utf8_first)]) (g := 5) (ti := 79) (tp := 194) (te := 196) (ts := 9) h (by kernel_rfl) (by kernel_rfl) Tryz.underlying79 row_es Tryz.underlying194 Tryz.underlying196 rfl rfl Tryz.underlying9 (by kernel_rfl) (by kernel_rfl)
  exact Go.Sx.tab_err (.inr rfl) hv
theorem tabs_ok {W : World} (h : laidMet Tryz.prog LD W) (hs : W.ShapedOpen Tryz.prog) : Go.Sx.Tabs Tryz.prog W.heap.size (fun _ => False) W :=
  Go.Sx.tabs_mk (Go.Sx.tab_pow (Go.Lib.tabIs_of_head (P := Tryz.prog) (g := 1) (t := 177) (e := 157) (n := 20) (rest := [("unicode/utf8.acceptRanges", Rows.laid_unicode_utf8_acceptRanges), ("strconv.ErrRange", Rows.laid_strconv_ErrRange), ("strconv.ErrSyntax", Rows.laid_strconv_ErrSyntax), ("unicode/utf8.first", Rows.laid_unicode_utf8_first)]) (by kernel_rfl) (by kernel_rfl) Tryz.underlying177 Tryz.underlying157 (by kernel_rfl) (by kernel_rfl) (pow_ld ▸ h.tail.tail)))
    (errAt5 h.tail.tail.tail.tail.tail)
    (errAt4 h.tail.tail.tail.tail)
    (Go.Sx.tab_max (g0 := 0) (by kernel_rfl) (Go.Proofs.cell_of_shapedOpen_int (P := Tryz.prog) (g := 0) (t := 3) (zero := #[.int .i64 0]) hs (of_decide_eq_true (by kernel_rfl)) (by kernel_rfl) rfl (by kernel_rfl) (by kernel_rfl) Tryz.underlying3))
set_option maxRecDepth 100000 in
theorem lifted (os : Os) (started : os.Started) (H : Type) (enc : TypeId × Value → H) :
    ReturnsInHanded {} Tryz.checked os 5 .any (fun w args => (Rows.fnScriptSpec.pre enc Tryz.prog Tryz.f5 Rows.fnScriptRow.domain false w args ∧ laidMet Tryz.prog LD w) ∧ sizedMet enc Tryz.prog Tryz.f5 (OpenSpec.ofChange Rows.fnScriptSpec) false w args) (Rows.fnScriptSpec.post enc Tryz.prog Tryz.f5 false true false false) := by
  refine Go.Sx.returns_and_shaped (C := Tryz.checked) (X := fun w _ => laidMet Tryz.prog LD w) (fun _ _ _ hh h => h.of_heap hh) own started (by kernel_rfl) Tryz.func5
    (ChangeSpec.witness_at (enc := enc) (C := Tryz.checked) (os := os) (X := fun w _ => laidMet Tryz.prog LD w) false (World.laidAll Tryz.prog os LD) #[.slice none 0 0] 8 (World.laidAll_os _ _ _) (by kernel_rfl) (by kernel_rfl) (by kernel_rfl) (by kernel_rfl) (by kernel_rfl) (laidMet_laidAll _ (by kernel_rfl) (by kernel_rfl))) ?_
  intro W base args ds gs before hval0 hW hcnd hsz0 hL hsh
  have hval : ∀ (j : Nat) t v, Tryz.f5.params[j]? = some t → args[j]? = some v → Value.okWide Tryz.prog W .any base t v := hval0
  have hW' := hW
  obtain ⟨p, q, hA0, hV, rfl, hfz, hnd⟩ := hW
  have hA : DataW.TrodAll enc Tryz.prog W 0 (fun _ => true) true Tryz.f5.params.toList args.toList ds p := hA0
  rw [Tryz.params5] at hA hval
  have hA1 := hA
  obtain ⟨v0, vs0, d0, ds0, p0, q0, hargs, rfl, rfl, h0, r0⟩ := trodAll_cons hA
  obtain ⟨rfl, rfl, rfl⟩ := trodAll_nil r0
  obtain rfl : args = #[v0] := by cases args; simp_all
  obtain ⟨rfl, rfl⟩ := trodVars_none hV
  clear hA0 hval0 hsz0
  refine (Go.Sx.law_calls Go.Sx.T.ok_laws_FnScript (by kernel_rfl) (fun x hx => ⟨0, Go.Sx.T.t_FnScript x⟩) hA1 (fun j t v h h' => hval j t v (by simpa using h) (by simpa using h')) (tabs_ok hL hsh)).mono fun e W' he => ?_
  obtain ⟨rfl, bel⟩ := he
  exact ⟨_, rfl, _, _, _, [], _, [], hW', trodAll_mk1 (shut_bool Tryz.underlying4 _), Go.Sx.args_keep laidOut bel _ _ _ _ (by kernel_rfl) hA1, rfl, bel.frame _, fun h => by cases h⟩
theorem over : Rows.fnScriptRow.holds Tryz.pinned (OpenSpec.ofChange Rows.fnScriptSpec) :=
  OpenClaim.holds_of_wide 5 Tryz.f5 rfl rfl rfl rfl rfl rfl rfl ⟨rfl, rfl, rfl, rfl, rfl⟩ rfl rfl rfl rfl rfl (by kernel_rfl) Tryz.func5 (by kernel_rfl)
    (of_decide_eq_true (by kernel_rfl)) (by unfold Func.isWrapper; first | (rw [if_pos (by decide +kernel)]; kernel_rfl) | (rw [if_neg (by decide +kernel)]; exact ⟨rfl, rfl⟩))
    (fun os started H enc _ => lifted os started H enc)
theorem card : Rows.FnScriptCardSaid :=
  Claim7.holds_tied_plain_at .later [] [.data, .data, .data, .data, .sentinel, .sentinel, .pinned] true (true, "4d7d7bfd14bd6471668a0899a8fd6c92979971e21e8b6b3de5951d411cd24d46") true over (fun _ h => by cases h) (by kernel_rfl) (fun _ h => by cases h) fnScript_row_tie rfl ⟨rfl, rfl⟩ (by kernel_rfl) rfl
    (fun f fn hf hfn => by
      obtain rfl : f = 5 := Option.some.inj ((show Tryz.prog.funcNamed "loop.example/g00200/laws.FnScript" = some 5 by kernel_rfl).symm.trans hf) |>.symm
      obtain rfl : fn = Tryz.f5 := (Option.some.inj (Tryz.func5.symm.trans hfn)).symm
      exact ⟨by kernel_rfl, fun j t ht => by
        rw [Tryz.params5] at ht
        have hm : t ∈ [22] := by simpa using Array.mem_of_getElem? ht
        have hall : ([22].all fun u => !Tryz.prog.wantsStandIn u) = true := by kernel_rfl
        exact (show Tryz.prog.wantsStandIn t = false by simpa using List.all_eq_true.1 hall t hm)⟩)
    (by kernel_rfl)
#print axioms card
end Go.Proofs.YtogagfoikapbpaaGreatDoor.fnScript
namespace Go.Proofs.YtogagfoikapbpaaGreatDoor
/-- The card, under a short name, for the claim. -/
theorem fnScript_holds : Rows.FnScriptCardSaid := fnScript.card
end Go.Proofs.YtogagfoikapbpaaGreatDoor
