/- The row of FnExactWants: its parameters opened, the pure statement used, the arguments shut. -/
import Derived.Test.YtieddilnccjabaaRows
import Derived.Test.YtieddilnccjabaaPFnExactWantsx5
import Derived.Test.YtieddilnccjabaaOpen
import Derived.Test.YtieddilnccjabaaPureFnExactWants
import Derived.WalkKit
import Derived.ProofKit
import Derived.OpenShut
import Derived.ShutString
import Derived.ChangeOld
import Derived.Below
import Derived.SizedLaws
import Derived.Carry
import Derived.ChangeSlices
set_option linter.unusedVariables false
set_option linter.unusedSimpArgs false
namespace Go.Proofs.Ytieddilnccjabaa.fnExactWants
open Go.ChangeShapes Go.WideShapes Go.ChangeAt Go.RowKit Go.Proofs.Ytieddilnccjabaa.Opn Go.Proofs.Ytieddilnccjabaa.PFnExactWants Go.Proofs.YtieddilnccjabaaW.PrintWords
open Go.ChangeMaps (open_string shut_string)
theorem own : ownKnob Try.prog.godebug = none := by kernel_rfl
theorem laidOut : laidOutB Try.prog = true := by kernel_rfl
set_option maxRecDepth 100000 in
theorem opP0 : Opens Try.prog 47 (Kd.pair (Kd.int .i64) (Kd.pair (Kd.pair (Kd.int .i64) (Kd.pair (Kd.int .i64) (Kd.int .i64))) (Kd.pair (Kd.int .i64) (Kd.pair (Kd.int .i64) (Kd.pair (Kd.int .i64) (Kd.int .i64)))))) (fun a => ((Lit.int .i64 a.1).wf = true) ∧ (((Lit.int .i64 a.2.1.1).wf = true) ∧ ((Lit.int .i64 a.2.1.2.1).wf = true) ∧ ((Lit.int .i64 a.2.1.2.2).wf = true)) ∧ ((Lit.int .i64 a.2.2.1).wf = true) ∧ ((Lit.int .i64 a.2.2.2.1).wf = true) ∧ ((Lit.int .i64 a.2.2.2.2.1).wf = true) ∧ ((Lit.int .i64 a.2.2.2.2.2).wf = true)) := opens_fields Try.underlying47 (by kernel_rfl) (opensF_cons (k := (Kd.int .i64)) (G := fun a => (Lit.int .i64 a).wf = true) (k' := (Kd.pair (Kd.pair (Kd.int .i64) (Kd.pair (Kd.int .i64) (Kd.int .i64))) (Kd.pair (Kd.int .i64) (Kd.pair (Kd.int .i64) (Kd.pair (Kd.int .i64) (Kd.int .i64)))))) (G' := fun a => (((Lit.int .i64 a.1.1).wf = true) ∧ ((Lit.int .i64 a.1.2.1).wf = true) ∧ ((Lit.int .i64 a.1.2.2).wf = true)) ∧ ((Lit.int .i64 a.2.1).wf = true) ∧ ((Lit.int .i64 a.2.2.1).wf = true) ∧ ((Lit.int .i64 a.2.2.2.1).wf = true) ∧ ((Lit.int .i64 a.2.2.2.2).wf = true)) rfl (by kernel_rfl) (opens_int Try.underlying3) (opensF_cons (k := (Kd.pair (Kd.int .i64) (Kd.pair (Kd.int .i64) (Kd.int .i64)))) (G := fun a => ((Lit.int .i64 a.1).wf = true) ∧ ((Lit.int .i64 a.2.1).wf = true) ∧ ((Lit.int .i64 a.2.2).wf = true)) (k' := (Kd.pair (Kd.int .i64) (Kd.pair (Kd.int .i64) (Kd.pair (Kd.int .i64) (Kd.int .i64))))) (G' := fun a => ((Lit.int .i64 a.1).wf = true) ∧ ((Lit.int .i64 a.2.1).wf = true) ∧ ((Lit.int .i64 a.2.2.1).wf = true) ∧ ((Lit.int .i64 a.2.2.2).wf = true)) rfl (by kernel_rfl) (opens_fields Try.underlying45 (by kernel_rfl) (opensF_cons (k := (Kd.int .i64)) (G := fun a => (Lit.int .i64 a).wf = true) (k' := (Kd.pair (Kd.int .i64) (Kd.int .i64))) (G' := fun a => ((Lit.int .i64 a.1).wf = true) ∧ ((Lit.int .i64 a.2).wf = true)) rfl (by kernel_rfl) (opens_int Try.underlying3) (opensF_cons (k := (Kd.int .i64)) (G := fun a => (Lit.int .i64 a).wf = true) (k' := (Kd.int .i64)) (G' := fun a => ((Lit.int .i64 a).wf = true)) rfl (by kernel_rfl) (opens_int Try.underlying3) (opensF_one (k := (Kd.int .i64)) (G := fun a => (Lit.int .i64 a).wf = true) rfl (by kernel_rfl) (opens_int Try.underlying3))))) (opensF_cons (k := (Kd.int .i64)) (G := fun a => (Lit.int .i64 a).wf = true) (k' := (Kd.pair (Kd.int .i64) (Kd.pair (Kd.int .i64) (Kd.int .i64)))) (G' := fun a => ((Lit.int .i64 a.1).wf = true) ∧ ((Lit.int .i64 a.2.1).wf = true) ∧ ((Lit.int .i64 a.2.2).wf = true)) rfl (by kernel_rfl) (opens_int Try.underlying3) (opensF_cons (k := (Kd.int .i64)) (G := fun a => (Lit.int .i64 a).wf = true) (k' := (Kd.pair (Kd.int .i64) (Kd.int .i64))) (G' := fun a => ((Lit.int .i64 a.1).wf = true) ∧ ((Lit.int .i64 a.2).wf = true)) rfl (by kernel_rfl) (opens_int Try.underlying3) (opensF_cons (k := (Kd.int .i64)) (G := fun a => (Lit.int .i64 a).wf = true) (k' := (Kd.int .i64)) (G' := fun a => ((Lit.int .i64 a).wf = true)) rfl (by kernel_rfl) (opens_int Try.underlying3) (opensF_one (k := (Kd.int .i64)) (G := fun a => (Lit.int .i64 a).wf = true) rfl (by kernel_rfl) (opens_int Try.underlying3)))))))
set_option maxRecDepth 100000 in
theorem lifted (os : Os) (started : os.Started) (H : Type) (enc : TypeId × Value → H) :
    ReturnsInHanded {} Try.checked os 14 .any (Rows.fnExactWantsSpec.pre6 enc Try.prog Try.f14 Rows.fnExactWantsRow.domain false) (Rows.fnExactWantsSpec.post enc Try.prog Try.f14 false true false false) := by
  refine returnsInHanded_of_change_sized (C := Try.checked) own started (by kernel_rfl) Try.func14
    (ChangeSpec.witness6 (enc := enc) (C := Try.checked) false ⟨#[], #[.agg #[.int .i64 0, .int .i64 0, .int .i64 0, .int .i64 0, .int .i64 0, .int .i64 0, .int .i64 0, .int .i64 0]], []⟩ 8 (by kernel_rfl) (by kernel_rfl) (by kernel_rfl) (by kernel_rfl)) ?_
  intro W base args ds gs before hval0 hW hcnd hsz0 _
  have hval : ∀ (j : Nat) t v, Try.f14.params[j]? = some t → args[j]? = some v → Value.okWide Try.prog W .any base t v := hval0
  have hW' := hW
  obtain ⟨p, q, hA0, hV, rfl, hfz, hnd⟩ := hW
  have hA : DataW.TrodAll enc Try.prog W 0 (fun _ => true) true Try.f14.params.toList args.toList ds p := hA0
  rw [Try.params14] at hA hval
  obtain ⟨v0, vs0, d0, ds0, p0, q0, hargs, rfl, rfl, h0, r0⟩ := trodAll_cons hA
  obtain ⟨rfl, rfl, rfl⟩ := trodAll_nil r0
  obtain rfl : args = #[v0] := by cases args; simp_all
  obtain ⟨rfl, rfl⟩ := trodVars_none hV
  have k0 := h0
  have lt0 := trod_lt h0
  obtain ⟨⟨a0_0, ⟨a0_1, a0_2, a0_3⟩, a0_4, a0_5, a0_6, a0_7⟩, cs0, rfl, K0, ⟨g0_0, ⟨g0_1, g0_2, g0_3⟩, g0_4, g0_5, g0_6, g0_7⟩⟩ := param_struct Try.underlying47 opP0 (hval 0 47 v0 rfl rfl) h0
  obtain ⟨d0_0, d1_0, e0, rfl, ⟨_, _, rfl, ⟨_, _, rfl, rfl, ⟨_, _, rfl, rfl, rfl⟩⟩, ⟨_, _, rfl, rfl, ⟨_, _, rfl, rfl, ⟨_, _, rfl, rfl, rfl⟩⟩⟩⟩⟩ := K0
  obtain rfl : cs0 = #[.int .i64 a0_0, .int .i64 a0_1, .int .i64 a0_2, .int .i64 a0_3, .int .i64 a0_4, .int .i64 a0_5, .int .i64 a0_6, .int .i64 a0_7] := Array.ext' (by simpa using e0)
  clear hA0 hval0 hsz0
  have pu : ∀ (a0_0 : Int) (a0_1 : Int) (a0_2 : Int) (a0_3 : Int) (a0_4 : Int) (a0_5 : Int) (a0_6 : Int) (a0_7 : Int), (Lit.int .i64 a0_0).wf = true → (Lit.int .i64 a0_1).wf = true → (Lit.int .i64 a0_2).wf = true → (Lit.int .i64 a0_3).wf = true → (Lit.int .i64 a0_4).wf = true → (Lit.int .i64 a0_5).wf = true → (Lit.int .i64 a0_6).wf = true → (Lit.int .i64 a0_7).wf = true → ∃ k, laws_FnExactWants.f k a0_0 a0_1 a0_2 a0_3 a0_4 a0_5 a0_6 a0_7 = some true := Pure.FnExactWants
  obtain ⟨k, hk⟩ := pu a0_0 a0_1 a0_2 a0_3 a0_4 a0_5 a0_6 a0_7 g0_0 g0_1 g0_2 g0_3 g0_4 g0_5 g0_6 g0_7
  refine (laws_FnExactWants.calls k a0_0 a0_1 a0_2 a0_3 a0_4 a0_5 a0_6 a0_7 true W hk).mono fun e W' he => ?_
  obtain ⟨rfl, bel0⟩ := he
  have bel : Below W.heap.size W W' := bel0
  exact ⟨_, rfl, _, _, _, [], _, [], hW', trodAll_mk1 (shut_bool Try.underlying4 _), (trodAll_cons_mk (Below.trod laidOut (by kernel_rfl) (of_decide_eq_true (by kernel_rfl)) k0 bel lt0) trodAll_mk0), rfl, bel.frame _, fun h => by cases h⟩
theorem over : Rows.fnExactWantsRow.holds Try.pinned (OpenSpec.ofChange Rows.fnExactWantsSpec) :=
  OpenClaim.holds_of_wide 14 Try.f14 rfl rfl rfl rfl rfl rfl rfl ⟨rfl, rfl, rfl, rfl, rfl⟩ rfl rfl rfl rfl rfl (by kernel_rfl) Try.func14 (by kernel_rfl)
    (of_decide_eq_true (by kernel_rfl)) (by unfold Func.isWrapper; first | (rw [if_pos (by decide +kernel)]; kernel_rfl) | (rw [if_neg (by decide +kernel)]; exact ⟨rfl, rfl⟩))
    (fun os started H enc _ => lifted os started H enc)
theorem proved : Rows.FnExactWantsSaid := over
#print axioms proved
end Go.Proofs.Ytieddilnccjabaa.fnExactWants
namespace Go.Proofs.Ytieddilnccjabaa
/-- The row, under a short name, for the claim. -/
theorem fnExactWants_holds : Rows.FnExactWantsSaid := fnExactWants.proved
end Go.Proofs.Ytieddilnccjabaa
