/- The row of FnExactStopsOnAlarm: its parameters opened, the pure statement used, the arguments shut. -/
import Derived.Test.YtieddilnccjabaaRows
import Derived.Test.YtieddilnccjabaaPFnExactStopsOnAlarmx2
import Derived.Test.YtieddilnccjabaaOpen
import Derived.Test.YtieddilnccjabaaPureFnExactStopsOnAlarm
import Derived.WalkKit
import Derived.ProofKit
import Derived.OpenShut
import Derived.ShutString
import Derived.ChangeOld
import Derived.Below
import Derived.SizedLaws
import Derived.Carry
import Derived.ChangeSlices
set_option linter.unusedVariables false
set_option linter.unusedSimpArgs false
namespace Go.Proofs.Ytieddilnccjabaa.fnExactStopsOnAlarm
open Go.ChangeShapes Go.WideShapes Go.ChangeAt Go.RowKit Go.Proofs.Ytieddilnccjabaa.Opn Go.Proofs.Ytieddilnccjabaa.PFnExactStopsOnAlarm Go.Proofs.YtieddilnccjabaaW.PrintWords
open Go.ChangeMaps (open_string shut_string)
theorem own : ownKnob Try.prog.godebug = none := by kernel_rfl
theorem laidOut : laidOutB Try.prog = true := by kernel_rfl
def g84 (x : S84) : Prop := (Lit.int .i64 x.f0).wf = true ∧ (Lit.int .i64 x.f1).wf = true ∧ (Lit.int .i64 x.f2).wf = true
instance : Inhabited S84 := ⟨z84⟩
set_option maxRecDepth 100000 in
theorem op84 : Opens Try.prog 84 k84 g84 := opens_struct (fun x : S84 => (x.f0, x.f1, x.f2)) (fun a => ⟨a.1, a.2.1, a.2.2⟩) (fun _ => rfl) Try.underlying84 (by kernel_rfl) (opensF_cons (k := (Kd.int .i64)) (G := fun a => (Lit.int .i64 a).wf = true) (k' := (Kd.pair (Kd.int .i64) (Kd.int .i64))) (G' := fun a => ((Lit.int .i64 a.1).wf = true) ∧ ((Lit.int .i64 a.2).wf = true)) rfl (by kernel_rfl) (opens_int Try.underlying3) (opensF_cons (k := (Kd.int .i64)) (G := fun a => (Lit.int .i64 a).wf = true) (k' := (Kd.int .i64)) (G' := fun a => ((Lit.int .i64 a).wf = true)) rfl (by kernel_rfl) (opens_int Try.underlying3) (opensF_one (k := (Kd.int .i64)) (G := fun a => (Lit.int .i64 a).wf = true) rfl (by kernel_rfl) (opens_int Try.underlying3))))
set_option maxRecDepth 100000 in
theorem opP0 : Opens Try.prog 51 (Kd.slice 84 k84) (fun xs => (xs.length ≤ maxLen ∧ ∀ x ∈ xs, g84 x)) := (opens_slice Try.underlying51 (by kernel_rfl) op84)
set_option maxRecDepth 100000 in
theorem lifted (os : Os) (started : os.Started) (H : Type) (enc : TypeId × Value → H) :
    ReturnsInHanded {} Try.checked os 8 .any (Rows.fnExactStopsOnAlarmSpec.pre6 enc Try.prog Try.f8 Rows.fnExactStopsOnAlarmRow.domain false) (Rows.fnExactStopsOnAlarmSpec.post enc Try.prog Try.f8 false true false false) := by
  refine returnsInHanded_of_change_sized (C := Try.checked) own started (by kernel_rfl) Try.func8
    (ChangeSpec.witness6 (enc := enc) (C := Try.checked) false ⟨#[], #[.slice none 0 0], []⟩ 8 (by kernel_rfl) (by kernel_rfl) (by kernel_rfl) (by kernel_rfl)) ?_
  intro W base args ds gs before hval0 hW hcnd hsz0 _
  have hval : ∀ (j : Nat) t v, Try.f8.params[j]? = some t → args[j]? = some v → Value.okWide Try.prog W .any base t v := hval0
  have hW' := hW
  obtain ⟨p, q, hA0, hV, rfl, hfz, hnd⟩ := hW
  have hA : DataW.TrodAll enc Try.prog W 0 (fun _ => true) true Try.f8.params.toList args.toList ds p := hA0
  rw [Try.params8] at hA hval
  obtain ⟨v0, vs0, d0, ds0, p0, q0, hargs, rfl, rfl, h0, r0⟩ := trodAll_cons hA
  obtain ⟨rfl, rfl, rfl⟩ := trodAll_nil r0
  obtain rfl : args = #[v0] := by cases args; simp_all
  obtain ⟨rfl, rfl⟩ := trodVars_none hV
  have k0 := h0
  have lt0 := trod_lt h0
  obtain ⟨l0, A0, c0, rfl, hc0, hr0, g0⟩ := param_slice Try.underlying51 opP0 (hval 0 51 v0 rfl rfl) h0
  clear hA0 hval0 hsz0
  have pu : ∀ (l0 : (List S84)), (l0.length ≤ maxLen ∧ ∀ x ∈ l0, g84 x) → ∃ k, laws_FnExactStopsOnAlarm.f k l0 = some true := Pure.FnExactStopsOnAlarm
  obtain ⟨k, hk⟩ := pu l0 g0
  refine (laws_FnExactStopsOnAlarm.calls k A0 c0 l0 true W hr0 hc0 hk).mono fun e W' he => ?_
  obtain ⟨rfl, bel0⟩ := he
  have bel : Below W.heap.size W W' := bel0
  exact ⟨_, rfl, _, _, _, [], _, [], hW', trodAll_mk1 (shut_bool Try.underlying4 _), (trodAll_cons_mk (Below.trod laidOut (by kernel_rfl) (of_decide_eq_true (by kernel_rfl)) k0 bel lt0) trodAll_mk0), rfl, bel.frame _, fun h => by cases h⟩
theorem over : Rows.fnExactStopsOnAlarmRow.holds Try.pinned (OpenSpec.ofChange Rows.fnExactStopsOnAlarmSpec) :=
  OpenClaim.holds_of_wide 8 Try.f8 rfl rfl rfl rfl rfl rfl rfl ⟨rfl, rfl, rfl, rfl, rfl⟩ rfl rfl rfl rfl rfl (by kernel_rfl) Try.func8 (by kernel_rfl)
    (of_decide_eq_true (by kernel_rfl)) (by unfold Func.isWrapper; first | (rw [if_pos (by decide +kernel)]; kernel_rfl) | (rw [if_neg (by decide +kernel)]; exact ⟨rfl, rfl⟩))
    (fun os started H enc _ => lifted os started H enc)
theorem proved : Rows.FnExactStopsOnAlarmSaid := over
#print axioms proved
end Go.Proofs.Ytieddilnccjabaa.fnExactStopsOnAlarm
namespace Go.Proofs.Ytieddilnccjabaa
/-- The row, under a short name, for the claim. -/
theorem fnExactStopsOnAlarm_holds : Rows.FnExactStopsOnAlarmSaid := fnExactStopsOnAlarm.proved
end Go.Proofs.Ytieddilnccjabaa
