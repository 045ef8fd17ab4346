/- For all arguments the program's InOk returns what the reference's returns. Conditions: none. -/
import Derived.Test.YtieddilnccjabaaPFnExactInOkx
import Derived.Test.YtieddilnccjabaaWMore
set_option linter.unusedVariables false
set_option linter.unusedSimpArgs false
namespace Go.Proofs.Ytieddilnccjabaa.Pure
open Go.RowKit Go.Proofs.Ytieddilnccjabaa.PFnExactInOk Go.Proofs.YtieddilnccjabaaW.PrintWords Go.Proofs.YtieddilnccjabaaW.PrintLast Go.Proofs.YtieddilnccjabaaW.PrintMore
theorem impl_within_eq (a b c : Int) : impl_within.f a b c = some (decide (b ≤ a ∧ a ≤ c)) := by
  unfold impl_within.f; split <;> simp_all <;> omega
theorem spec_l01In_eq (a b c : Int) : spec_l01In.f a b c = some (decide (b ≤ a ∧ a ≤ c)) := by
  unfold spec_l01In.f; split <;> simp_all <;> omega
def senseOk (a : Int) : Bool := decide (0 ≤ a ∧ a ≤ 15)
theorem impl_SenseOk_eq (a : Int) : impl_SenseOk.f a = some (senseOk a) := by unfold impl_SenseOk.f; rw [impl_within_eq]; rfl
theorem spec_SenseOk_eq (a : Int) : spec_SenseOk.f a = some (senseOk a) := by unfold spec_SenseOk.f; rw [spec_l01In_eq]; rfl
theorem FnExactInOk : ∀ (a0_0 : Int) (a0_1 : ByteArray) (a0_2 : ByteArray), (Lit.int .i64 a0_0).wf = true → a0_1.size ≤ maxLen → a0_2.size ≤ maxLen → laws_FnExactInOk.f a0_0 a0_1 a0_2 = some true := by
  intro a s t _ _ _
  unfold laws_FnExactInOk.f laws_toIn.f spec_InOk.f impl_InOk.f
  simp only [impl_SenseOk_eq, spec_SenseOk_eq, Option.bind_some]
  have hz : ∃ z, laws_szIn.f a s t 1048576 = some z := by
    unfold laws_szIn.f
    split
    · exact ⟨_, rfl⟩
    · split <;> exact ⟨_, rfl⟩
  obtain ⟨z, hz⟩ := hz
  rw [hz, Option.bind_some]
  split
  · rfl
  · by_cases h1 : senseOk a = true
    · simp only [h1, if_true]
      by_cases h2 : (s.size : Int) ≤ 20 <;> simp [h2]
    · simp [h1]

end Go.Proofs.Ytieddilnccjabaa.Pure
