/- The row of FnExactInOk: its parameters opened, the pure statement used, the arguments shut. -/
import Derived.Test.YtieddilnccjabaaRows
import Derived.Test.YtieddilnccjabaaPFnExactInOkx1
import Derived.Test.YtieddilnccjabaaOpen
import Derived.Test.YtieddilnccjabaaPureFnExactInOk
import Derived.WalkKit
import Derived.ProofKit
import Derived.OpenShut
import Derived.ShutString
import Derived.ChangeOld
import Derived.Below
import Derived.SizedLaws
import Derived.Carry
import Derived.ChangeSlices
set_option linter.unusedVariables false
set_option linter.unusedSimpArgs false
namespace Go.Proofs.Ytieddilnccjabaa.fnExactInOk
open Go.ChangeShapes Go.WideShapes Go.ChangeAt Go.RowKit Go.Proofs.Ytieddilnccjabaa.Opn Go.Proofs.Ytieddilnccjabaa.PFnExactInOk Go.Proofs.YtieddilnccjabaaW.PrintWords
open Go.ChangeMaps (open_string shut_string)
theorem own : ownKnob Try.prog.godebug = none := by kernel_rfl
theorem laidOut : laidOutB Try.prog = true := by kernel_rfl
set_option maxRecDepth 100000 in
theorem opP0 : Opens Try.prog 28 (Kd.pair (Kd.int .i64) (Kd.pair Kd.string Kd.string)) (fun a => ((Lit.int .i64 a.1).wf = true) ∧ (a.2.1.size ≤ maxLen) ∧ (a.2.2.size ≤ maxLen)) := opens_fields Try.underlying28 (by kernel_rfl) (opensF_cons (k := (Kd.int .i64)) (G := fun a => (Lit.int .i64 a).wf = true) (k' := (Kd.pair Kd.string Kd.string)) (G' := fun a => (a.1.size ≤ maxLen) ∧ (a.2.size ≤ maxLen)) rfl (by kernel_rfl) (opens_int Try.underlying3) (opensF_cons (k := Kd.string) (G := fun a => a.size ≤ maxLen) (k' := Kd.string) (G' := fun a => (a.size ≤ maxLen)) rfl (by kernel_rfl) (opens_string Try.underlying9) (opensF_one (k := Kd.string) (G := fun a => a.size ≤ maxLen) rfl (by kernel_rfl) (opens_string Try.underlying9))))
set_option maxRecDepth 100000 in
theorem lifted (os : Os) (started : os.Started) (H : Type) (enc : TypeId × Value → H) :
    ReturnsInHanded {} Try.checked os 4 .any (Rows.fnExactInOkSpec.pre6 enc Try.prog Try.f4 Rows.fnExactInOkRow.domain false) (Rows.fnExactInOkSpec.post enc Try.prog Try.f4 false true false false) := by
  refine returnsInHanded_of_change_sized (C := Try.checked) own started (by kernel_rfl) Try.func4
    (ChangeSpec.witness6 (enc := enc) (C := Try.checked) false ⟨#[], #[.agg #[.int .i64 0, .string ByteArray.empty, .string ByteArray.empty]], []⟩ 8 (by kernel_rfl) (by kernel_rfl) (by kernel_rfl) (by kernel_rfl)) ?_
  intro W base args ds gs before hval0 hW hcnd hsz0 _
  have hval : ∀ (j : Nat) t v, Try.f4.params[j]? = some t → args[j]? = some v → Value.okWide Try.prog W .any base t v := hval0
  have hW' := hW
  obtain ⟨p, q, hA0, hV, rfl, hfz, hnd⟩ := hW
  have hA : DataW.TrodAll enc Try.prog W 0 (fun _ => true) true Try.f4.params.toList args.toList ds p := hA0
  rw [Try.params4] at hA hval
  obtain ⟨v0, vs0, d0, ds0, p0, q0, hargs, rfl, rfl, h0, r0⟩ := trodAll_cons hA
  obtain ⟨rfl, rfl, rfl⟩ := trodAll_nil r0
  obtain rfl : args = #[v0] := by cases args; simp_all
  obtain ⟨rfl, rfl⟩ := trodVars_none hV
  have k0 := h0
  have lt0 := trod_lt h0
  obtain ⟨⟨a0_0, a0_1, a0_2⟩, cs0, rfl, K0, ⟨g0_0, g0_1, g0_2⟩⟩ := param_struct Try.underlying28 opP0 (hval 0 28 v0 rfl rfl) h0
  obtain ⟨d0_0, d1_0, e0, rfl, ⟨_, _, rfl, rfl, rfl⟩⟩ := K0
  obtain rfl : cs0 = #[.int .i64 a0_0, .string a0_1, .string a0_2] := Array.ext' (by simpa using e0)
  clear hA0 hval0 hsz0
  have pu : ∀ (a0_0 : Int) (a0_1 : ByteArray) (a0_2 : ByteArray), (Lit.int .i64 a0_0).wf = true → a0_1.size ≤ maxLen → a0_2.size ≤ maxLen → laws_FnExactInOk.f a0_0 a0_1 a0_2 = some true := Pure.FnExactInOk
  have hk := pu a0_0 a0_1 a0_2 g0_0 g0_1 g0_2
  refine (laws_FnExactInOk.calls a0_0 a0_1 a0_2 true W hk).mono fun e W' he => ?_
  obtain ⟨rfl, bel0⟩ := he
  have bel : Below W.heap.size W W' := bel0
  exact ⟨_, rfl, _, _, _, [], _, [], hW', trodAll_mk1 (shut_bool Try.underlying4 _), (trodAll_cons_mk (Below.trod laidOut (by kernel_rfl) (of_decide_eq_true (by kernel_rfl)) k0 bel lt0) trodAll_mk0), rfl, bel.frame _, fun h => by cases h⟩
theorem over : Rows.fnExactInOkRow.holds Try.pinned (OpenSpec.ofChange Rows.fnExactInOkSpec) :=
  OpenClaim.holds_of_wide 4 Try.f4 rfl rfl rfl rfl rfl rfl rfl ⟨rfl, rfl, rfl, rfl, rfl⟩ rfl rfl rfl rfl rfl (by kernel_rfl) Try.func4 (by kernel_rfl)
    (of_decide_eq_true (by kernel_rfl)) (by unfold Func.isWrapper; first | (rw [if_pos (by decide +kernel)]; kernel_rfl) | (rw [if_neg (by decide +kernel)]; exact ⟨rfl, rfl⟩))
    (fun os started H enc _ => lifted os started H enc)
theorem proved : Rows.FnExactInOkSaid := over
#print axioms proved
end Go.Proofs.Ytieddilnccjabaa.fnExactInOk
namespace Go.Proofs.Ytieddilnccjabaa
/-- The row, under a short name, for the claim. -/
theorem fnExactInOk_holds : Rows.FnExactInOkSaid := fnExactInOk.proved
end Go.Proofs.Ytieddilnccjabaa
