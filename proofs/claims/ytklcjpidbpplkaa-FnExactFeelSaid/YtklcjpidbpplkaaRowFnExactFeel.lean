/- The row of FnExactFeel: its parameters opened, the pure statement used, the arguments shut. -/
import Derived.Test.YtklcjpidbpplkaaRows
import Derived.Test.YtklcjpidbpplkaaQFnExactFeelx4
import Derived.Test.YtklcjpidbpplkaaQFnExactFeelO
import Derived.Test.YtklcjpidbpplkaaPureFnExactFeel
import Derived.WalkKit
import Derived.ProofKit
import Derived.OpenShut
import Derived.ShutString
import Derived.ChangeOld
import Derived.Below
import Derived.SizedLaws
import Derived.Carry
import Derived.ChangeSlices
set_option linter.unusedVariables false
set_option linter.unusedSimpArgs false
namespace Go.Proofs.Ytklcjpidbpplkaa.fnExactFeel
open Go.ChangeShapes Go.WideShapes Go.ChangeAt Go.RowKit Go.Proofs.Ytklcjpidbpplkaa.Opn Go.Proofs.Ytklcjpidbpplkaa.PFnExactFeel Go.Proofs.YtklcjpidbpplkaaW.PrintWords
open Go.ChangeMaps (open_string shut_string)
theorem own : ownKnob Try.prog.godebug = none := by kernel_rfl
theorem laidOut : laidOutB Try.prog = true := by kernel_rfl
set_option maxRecDepth 100000 in
theorem opP0 : Opens Try.prog 44 (Kd.pair (Kd.slice 3 (Kd.int .i64)) (Kd.int .i64)) (fun a => ((a.1.length ≤ maxLen ∧ ∀ x ∈ a.1, (Lit.int .i64 x).wf = true)) ∧ ((Lit.int .i64 a.2).wf = true)) := opens_fields Try.underlying44 (by kernel_rfl) (opensF_cons (k := (Kd.slice 3 (Kd.int .i64))) (G := fun a => (a.length ≤ maxLen ∧ ∀ x ∈ a, (Lit.int .i64 x).wf = true)) (k' := (Kd.int .i64)) (G' := fun a => ((Lit.int .i64 a).wf = true)) rfl (by kernel_rfl) (opens_slice Try.underlying28 (by kernel_rfl) (opens_int Try.underlying3)) (opensF_one (k := (Kd.int .i64)) (G := fun a => (Lit.int .i64 a).wf = true) rfl (by kernel_rfl) (opens_int Try.underlying3)))
set_option maxRecDepth 100000 in
theorem lifted (os : Os) (started : os.Started) (H : Type) (enc : TypeId × Value → H) :
    ReturnsInHanded {} Try.checked os 9 .any (Rows.fnExactFeelSpec.pre6 enc Try.prog Try.f9 Rows.fnExactFeelRow.domain false) (Rows.fnExactFeelSpec.post enc Try.prog Try.f9 false true false false) := by
  refine returnsInHanded_of_change_sized (C := Try.checked) own started (by kernel_rfl) Try.func9
    (ChangeSpec.witness6 (enc := enc) (C := Try.checked) false ⟨#[], #[.agg #[.slice none 0 0, .int .i64 0], .int .i64 0, .bool false], []⟩ 8 (by kernel_rfl) (by kernel_rfl) (by kernel_rfl) (by kernel_rfl)) ?_
  intro W base args ds gs before hval0 hW hcnd hsz0 _
  have hval : ∀ (j : Nat) t v, Try.f9.params[j]? = some t → args[j]? = some v → Value.okWide Try.prog W .any base t v := hval0
  have hW' := hW
  obtain ⟨p, q, hA0, hV, rfl, hfz, hnd⟩ := hW
  have hA : DataW.TrodAll enc Try.prog W 0 (fun _ => true) true Try.f9.params.toList args.toList ds p := hA0
  rw [Try.params9] at hA hval
  obtain ⟨v0, vs0, d0, ds0, p0, q0, hargs, rfl, rfl, h0, r0⟩ := trodAll_cons hA
  obtain ⟨v1, vs1, d1, ds1, p1, q1, rfl, rfl, rfl, h1, r1⟩ := trodAll_cons r0
  obtain ⟨v2, vs2, d2, ds2, p2, q2, rfl, rfl, rfl, h2, r2⟩ := trodAll_cons r1
  obtain ⟨rfl, rfl, rfl⟩ := trodAll_nil r2
  obtain rfl : args = #[v0, v1, v2] := by cases args; simp_all
  obtain ⟨rfl, rfl⟩ := trodVars_none hV
  have k0 := h0
  have lt0 := trod_lt h0
  obtain ⟨⟨l0_0, a0_1⟩, cs0, rfl, K0, ⟨g0_0, g0_1⟩⟩ := param_struct Try.underlying44 opP0 (hval 0 44 v0 rfl rfl) h0
  obtain ⟨d0_0, d1_0, e0, ⟨A0_0, c0_0, rfl, hc0_0, hr0_0⟩, rfl⟩ := K0
  obtain rfl : cs0 = #[.slice A0_0 l0_0.length c0_0, .int .i64 a0_1] := Array.ext' (by simpa using e0)
  obtain ⟨a1, rfl, rfl, rfl, w1⟩ := open_int Try.underlying3 (hval 1 3 v1 rfl rfl) h1
  obtain ⟨a2, rfl, rfl, rfl⟩ := open_bool Try.underlying4 (hval 2 4 v2 rfl rfl) h2
  clear hA0 hval0 hsz0
  have pu : ∀ (l0_0 : (List Int)) (a0_1 : Int) (a1 : Int) (a2 : Bool), (l0_0.length ≤ maxLen ∧ ∀ x ∈ l0_0, (Lit.int .i64 x).wf = true) → (Lit.int .i64 a0_1).wf = true → (Lit.int .i64 a1).wf = true → ∃ k, laws_FnExactFeel.f k l0_0 a0_1 a1 a2 = some true := Pure.FnExactFeel
  obtain ⟨k, hk⟩ := pu l0_0 a0_1 a1 a2 g0_0 g0_1 w1
  refine (laws_FnExactFeel.calls k A0_0 c0_0 l0_0 a0_1 a1 a2 true W hr0_0 hc0_0 hk).mono fun e W' he => ?_
  obtain ⟨rfl, bel0⟩ := he
  have bel : Below W.heap.size W W' := bel0
  exact ⟨_, rfl, _, _, _, [], _, [], hW', trodAll_mk1 (shut_bool Try.underlying4 _), (trodAll_cons_mk (Below.trod laidOut (by kernel_rfl) (of_decide_eq_true (by kernel_rfl)) k0 bel lt0) (trodAll_cons_mk (shut_int Try.underlying3 w1) (trodAll_cons_mk (shut_bool Try.underlying4 _) trodAll_mk0))), rfl, bel.frame _, fun h => by cases h⟩
theorem over : Rows.fnExactFeelRow.holds Try.pinned (OpenSpec.ofChange Rows.fnExactFeelSpec) :=
  OpenClaim.holds_of_wide 9 Try.f9 rfl rfl rfl rfl rfl rfl rfl ⟨rfl, rfl, rfl, rfl, rfl⟩ rfl rfl rfl rfl rfl (by kernel_rfl) Try.func9 (by kernel_rfl)
    (of_decide_eq_true (by kernel_rfl)) (by unfold Func.isWrapper; first | (rw [if_pos (by decide +kernel)]; kernel_rfl) | (rw [if_neg (by decide +kernel)]; exact ⟨rfl, rfl⟩))
    (fun os started H enc _ => lifted os started H enc)
theorem proved : Rows.FnExactFeelSaid := over
#print axioms proved
end Go.Proofs.Ytklcjpidbpplkaa.fnExactFeel
namespace Go.Proofs.Ytklcjpidbpplkaa
/-- The row, under a short name, for the claim. -/
theorem fnExactFeel_holds : Rows.FnExactFeelSaid := fnExactFeel.proved
end Go.Proofs.Ytklcjpidbpplkaa
