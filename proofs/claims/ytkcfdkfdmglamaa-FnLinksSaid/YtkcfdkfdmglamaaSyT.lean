/- One operation among others: what it looks at, what it changes. -/
import Derived.Test.YtkcfdkfdmglamaaSyS
set_option linter.unusedVariables false
set_option linter.unusedSimpArgs false
namespace Go.Sx
def isRo : Ent → Bool
  | .ro _ _ _ => true
  | _ => false
/-- Who looks here finds all as it was. -/
def Sees (av : Av) (hp hp' : Hp) : Prop := ∀ n, hp n ≠ .free → (rdOk av n = true ∨ isRo (hp n) = true) → hp' n = hp n
def Grows (hp hp' : Hp) : Prop := ∀ n, hp n ≠ .free → hp' n = hp n
theorem Grows.sees {hp hp' : Hp} (h : Grows hp hp') (av : Av) : Sees av hp hp' := fun n hn _ => h n hn
theorem grows_upd {hp : Hp} {q : Nat} (hq : hp q = .free) (E : Ent) : Grows hp (upd hp q E) := fun n hn => upd_other _ _ fun e => by subst e; exact hn hq
theorem rd_none (n : Nat) : rdOk none n = true := rfl
theorem sees_none {hp hp' : Hp} (h : Sees none hp hp') : Grows hp hp' := fun n hn => h n hn (.inl rfl)
section
variable {P : Program} {av : Av} {hp hp' hp1 : Hp}
theorem readL_sees {ty : Ty} {x : SC} {l : List ty.T} (h : readL av hp ty x = some l) (hs : Sees av hp hp') : readL av hp' ty x = some l := by
  cases x with
  | sl n =>
    have key : hp' n = hp n := by
      unfold readL at h
      cases hh : hp n with
      | row t l0 e =>
        refine (hs n (by rw [hh]; simp) (.inl ?_)).trans hh
        cases hr : rdOk av n with
        | true => rfl
        | false => simp [hh, hr] at h
      | ro t l0 e => exact (hs n (by rw [hh]; simp) (.inr (by rw [hh]; rfl))).trans hh
      | ex t l0 e =>
        refine (hs n (by rw [hh]; simp) (.inl ?_)).trans hh
        cases hr : rdOk av n with
        | true => rfl
        | false => simp [hh, hr] at h
      | _ => simp [hh] at h
    unfold readL at h ⊢
    simp only [key]
    exact h
  | _ => exact h
theorem lenA_sees {t : TypeId} {x : SV} {l : Int} (h : lenA P av hp t x = some l) (hs : Sees av hp hp') : lenA P av hp' t x = some l := by
  unfold lenA at h ⊢
  split at h
  · simp_all
  · simp_all
  · rename_i n
    split at h
    · rename_i el hu
      have key : hp' n = hp n := by
        cases hh : hp n with
        | row t l0 e =>
          refine (hs n (by rw [hh]; simp) (.inl ?_)).trans hh
          cases hr : rdOk av n with
          | true => rfl
          | false => simp [hh, hr] at h
        | ro t l0 e => exact (hs n (by rw [hh]; simp) (.inr (by rw [hh]; rfl))).trans hh
        | ex t l0 e =>
          refine (hs n (by rw [hh]; simp) (.inl ?_)).trans hh
          cases hr : rdOk av n with
          | true => rfl
          | false => simp [hh, hr] at h
        | _ => simp [hh] at h
      simp only [hu, key]
      exact h
    · cases h
  · cases h
theorem loadA_sees {t : TypeId} {x : SV} {cs : List SB} {v : SV} (h : loadA P av t hp x = some (cs, v, hp1)) (hs : Sees av hp hp') : hp1 = hp ∧ loadA P av t hp' x = some (cs, v, hp') := by
  unfold loadA at h ⊢
  split at h
  · rename_i n off
    split at h
    · rename_i cs0 tt hh
      cases hr : rdOk av n with
      | false => simp [hr] at h
      | true =>
        have key := hs n (by rw [hh]; simp) (.inl hr)
        simp only [hr, cnd_true, key, hh] at h ⊢
        split at h <;> simp_all
    · cases h
  · rename_i n sz i off
    split at h
    · rename_i ty l e hh
      cases hr : rdOk av n with
      | false => simp [hr] at h
      | true =>
        have key := hs n (by rw [hh]; simp) (.inl hr)
        simp only [hr, key, hh] at h ⊢
        cases hb : (true && Nat.beq sz ty.size) with
        | false => rw [hb] at h; cases h
        | true =>
          rw [hb] at h
          simp only [cnd_true] at h ⊢
          split at h <;> simp_all
    · rename_i ty l e hh
      have key := hs n (by rw [hh]; simp) (.inr (by rw [hh]; rfl))
      simp only [key, hh] at h ⊢
      cases hb : (Nat.beq sz ty.size) with
      | false => rw [hb] at h; cases h
      | true =>
        rw [hb] at h
        simp only [cnd_true] at h ⊢
        split at h <;> simp_all
    · rename_i ty l e hh
      cases hr : rdOk av n with
      | false => simp [hr] at h
      | true =>
        have key := hs n (by rw [hh]; simp) (.inl hr)
        simp only [hr, key, hh] at h ⊢
        cases hb : (true && Nat.beq sz ty.size) with
        | false => rw [hb] at h; cases h
        | true =>
          rw [hb] at h
          simp only [cnd_true] at h ⊢
          split at h <;> simp_all
    · cases h
  · cases h
theorem opA_cls0 {op : Op} {e : Operand → SV} {nm : Nat} {cs : List SB} {v : SV} (hc : cls P op = 0) (h : opA P av op e nm hp = some (cs, v, hp1)) : hp1 = hp ∧ ∀ av' nm' hp', opA P av' op e nm' hp' = some (cs, v, hp') := by
  cases op
  case move x => simp only [opA, Option.some.injEq, Prod.mk.injEq] at h ⊢; obtain ⟨rfl, rfl, rfl⟩ := h; simp
  case assign x => simp only [opA, Option.some.injEq, Prod.mk.injEq] at h ⊢; obtain ⟨rfl, rfl, rfl⟩ := h; simp
  case pick => simp [opA] at h
  case build t ps =>
    simp only [opA] at h ⊢
    split at h
    · split at h
      · split at h
        · simp_all
        · cases h
      · cases h
    · cases h
  case nilCheck x =>
    simp only [opA] at h ⊢
    split at h
    · simp_all
    · cases h
  case binOp op t x y _ =>
    simp only [opA] at h ⊢
    split at h
    · simp_all
    · split at h
      · simp_all
      · simp_all
      · cases h
  case unOp =>
    simp only [opA] at h ⊢
    split at h
    · simp_all
    · cases h
  case extract x i =>
    simp only [opA] at h ⊢
    split at h
    · split at h
      · simp_all
      · cases h
    · cases h
  case field t x f =>
    simp only [opA] at h ⊢
    split at h
    · split at h
      · simp_all
      · cases h
    · cases h
  case fieldAddr t x f =>
    simp only [opA] at h ⊢
    split at h
    · split at h
      · split at h
        · simp_all
        · simp_all
        · cases h
      · cases h
    · cases h
  case index t x i =>
    simp only [opA] at h ⊢
    split at h
    · simp_all
    · cases h
  case slice t x lo hi mx =>
    cases mx with
    | some m => simp [opA] at h
    | none =>
      have hu : P.underlying t = some .string := by
        simp only [cls] at hc
        split at hc
        · assumption
        · cases hc
      simp only [opA, sliceA] at h ⊢
      split at h
      · split at h
        · simp_all
        · split at h
          · rename_i he2
            simp [sliceOf, hu] at he2
          · cases h
        · cases h
      · cases h
  case call c =>
    simp only [cls] at hc
    split at hc <;> simp_all
  case convert s d x =>
    simp only [cls] at hc
    split at hc <;> cases hc
  all_goals first | (simp [cls] at hc; done) | (simp [opA] at h; done)
end
end Go.Sx
