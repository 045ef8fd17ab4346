/- One operation among others: who reads, who makes, who writes. -/
import Derived.Test.YtkcfdkfdmglamaaSyT
set_option linter.unusedVariables false
set_option linter.unusedSimpArgs false
namespace Go.Sx
theorem upd_comm {α : Type} {f : Nat → α} {a b : Nat} (h : a ≠ b) (x y : α) : upd (upd f a x) b y = upd (upd f b y) a x := by
  funext k
  by_cases h1 : k = a
  · subst h1; rw [upd_other _ _ h, upd_same, upd_same]
  · by_cases h2 : k = b
    · subst h2; rw [upd_same, upd_other _ _ h1, upd_same]
    · rw [upd_other _ _ h2, upd_other _ _ h1, upd_other _ _ h1, upd_other _ _ h2]
section
variable {P : Program} {av : Av} {hp hp' hp1 : Hp}
theorem opA_cls1 {op : Op} {e : Operand → SV} {nm : Nat} {cs : List SB} {v : SV} (hc : cls P op = 1) (h : opA P av op e nm hp = some (cs, v, hp1)) : hp1 = hp ∧ ∀ nm' hp', Sees av hp hp' → opA P av op e nm' hp' = some (cs, v, hp') := by
  cases op
  case load t x =>
    simp only [opA] at h ⊢
    exact ⟨(loadA_sees h (fun _ _ _ => rfl)).1, fun nm' hp' hs => (loadA_sees h hs).2⟩
  case indexAddr t x i =>
    simp only [opA] at h ⊢
    split at h
    · rename_i el n k j hu hx hi
      split at h
      · rename_i m hm
        split at h
        · rename_i ty l e' hh
          cases hr : rdOk av n with
          | false => simp [hr] at h
          | true =>
            simp only [hr, Bool.true_and] at h
            cases hb : Nat.beq m ty.size with
            | false => rw [hb] at h; cases h
            | true =>
              rw [hb] at h
              simp only [cnd_true, Option.some.injEq, Prod.mk.injEq] at h
              obtain ⟨rfl, rfl, rfl⟩ := h
              refine ⟨rfl, fun nm' hp' hs => ?_⟩
              have key := hs n (by rw [hh]; simp) (.inl hr)
              simp [hu, hx, hi, hm, key, hh, hr, hb]
        · rename_i ty l e' hh
          cases hb : Nat.beq m ty.size with
          | false => rw [hb] at h; cases h
          | true =>
            rw [hb] at h
            simp only [cnd_true, Option.some.injEq, Prod.mk.injEq] at h
            obtain ⟨rfl, rfl, rfl⟩ := h
            refine ⟨rfl, fun nm' hp' hs => ?_⟩
            have key := hs n (by rw [hh]; simp) (.inr (by rw [hh]; rfl))
            simp [hu, hx, hi, hm, key, hh, hb]
        · rename_i ty l e' hh
          cases hr : rdOk av n with
          | false => simp [hr] at h
          | true =>
            simp only [hr, Bool.true_and] at h
            cases hb : Nat.beq m ty.size with
            | false => rw [hb] at h; cases h
            | true =>
              rw [hb] at h
              simp only [cnd_true, Option.some.injEq, Prod.mk.injEq] at h
              obtain ⟨rfl, rfl, rfl⟩ := h
              refine ⟨rfl, fun nm' hp' hs => ?_⟩
              have key := hs n (by rw [hh]; simp) (.inl hr)
              simp [hu, hx, hi, hm, key, hh, hr, hb]
        · cases h
      · cases h
    · cases h
  case convert s d x =>
    simp only [opA] at h ⊢
    split at h
    · simp_all
    · split at h
      · split at h
        · rename_i l hl
          simp only [Option.some.injEq, Prod.mk.injEq] at h
          obtain ⟨rfl, rfl, rfl⟩ := h
          refine ⟨rfl, fun nm' hp' hs => ?_⟩
          have key := readL_sees hl hs
          simp_all
        · cases h
      · cases h
    · rename_i el s' hs2 hd hx
      simp only [cls, hd] at hc
      cases hc
    · cases h
  case call c =>
    obtain ⟨callee, as, ts⟩ := c
    cases callee with
    | builtin b =>
      simp only [opA, builtinA] at h ⊢
      split at h
      · split at h
        · split at h
          · rename_i n hn
            simp only [Option.some.injEq, Prod.mk.injEq] at h
            obtain ⟨rfl, rfl, rfl⟩ := h
            refine ⟨rfl, fun nm' hp' hs => ?_⟩
            have key := lenA_sees hn hs
            simp_all
          · cases h
        · cases h
      · split at h
        · simp_all
        · cases h
      · split at h
        · simp_all
        · cases h
      · simp [cls] at hc
      · cases h
    | _ => simp [opA] at h
  case slice t x lo hi mx =>
    simp only [cls] at hc
    split at hc <;> cases hc
  all_goals first | (simp [cls] at hc; done) | (simp [opA] at h; done)
theorem mk_inv' {nm : Nat} {v v' : SV} {E : Ent} {cs : List SB} (h : mk hp nm v E = some (cs, v', hp1)) : hp nm = .free ∧ cs = [] ∧ v' = v ∧ hp1 = upd hp nm E := by
  unfold mk at h
  split at h
  · simp only [Option.some.injEq, Prod.mk.injEq] at h
    obtain ⟨rfl, rfl, rfl⟩ := h
    exact ⟨by assumption, rfl, rfl, rfl⟩
  · cases h
theorem mk_free {nm : Nat} {v : SV} {E : Ent} (h : hp nm = .free) : mk hp nm v E = some ([], v, upd hp nm E) := by
  unfold mk
  rw [h]
theorem opA_cls2 {op : Op} {e : Operand → SV} {nm : Nat} {cs : List SB} {v : SV} (hc : cls P op = 2) (h : opA P av op e nm hp = some (cs, v, hp1)) :
    hp nm = .free ∧ ∃ E, wrE E ∧ hp1 = upd hp nm E ∧ ∀ av' hp', hp' nm = .free → opA P av' op e nm hp' = some (cs, v, upd hp' nm E) := by
  cases op
  case convert s d x =>
    simp only [opA] at h ⊢
    split at h
    · rename_i k0 k k1 n hs hd hx
      simp only [cls, hd] at hc
      cases hc
    · rename_i el x' hs hd hx
      simp only [cls, hd] at hc
      cases hc
    · rename_i el s' hs hd hx
      split at h
      · rename_i hel hfr
        simp only [Option.some.injEq, Prod.mk.injEq] at h
        obtain ⟨rfl, rfl, rfl⟩ := h
        refine ⟨hfr, _, ?_, rfl, fun av' hp' hf => by simp [hs, hd, hx, hel, hf]⟩
        exact trivial
      · cases h
    · cases h
  case alloc t =>
    simp only [opA] at h ⊢
    split at h
    · obtain ⟨h1, rfl, rfl, rfl⟩ := mk_inv' h
      refine ⟨h1, _, ?_, rfl, fun av' hp' hf => by simp [*, mk_free hf]⟩
      exact trivial
    · cases h
  case box t x =>
    simp only [opA] at h ⊢
    split at h
    · obtain ⟨h1, rfl, rfl, rfl⟩ := mk_inv' h
      refine ⟨h1, _, ?_, rfl, fun av' hp' hf => by simp [*, mk_free hf]⟩
      exact trivial
    · cases h
  case buildSlice t len ps =>
    simp only [opA] at h ⊢
    split at h
    · rename_i el hel
      split at h
      · rename_i ty hty
        split at h
        · rename_i xs hxs
          split at h
          · rename_i z hz
            cases hb : (Nat.beq xs.length len && Nat.ble (len * ty.size) 16777216) with
            | false => rw [hb] at h; cases h
            | true =>
              rw [hb] at h
              simp only [cnd_true] at h
              obtain ⟨h1, rfl, rfl, rfl⟩ := mk_inv' h
              refine ⟨h1, _, ?_, rfl, fun av' hp' hf => by simp only [hel, hty, hxs, hz, hb, cnd_true, mk_free hf]⟩
              exact trivial
          · cases h
        · cases h
      · cases h
    · cases h
  case makeSlice t n c =>
    simp only [opA] at h ⊢
    split at h
    · rename_i k1 a k2 b hn hcc
      split at h
      · rename_i el hel
        split at h
        · rename_i ty by_ hty hby
          split at h
          · rename_i hf
            split at h
            · rename_i g z hz
              split at h
              · rename_i hzz
                cases hb : Nat.blt 0 by_ with
                | false => rw [hb] at h; cases h
                | true =>
                  rw [hb] at h
                  simp only [cnd_true, Option.some.injEq, Prod.mk.injEq] at h
                  obtain ⟨rfl, rfl, rfl⟩ := h
                  refine ⟨hf, _, ?_, rfl, fun av' hp' hf => by simp only [hn, hcc, hel, hty, hby, hf, hz, hzz, hb, cnd_true]⟩
                  exact trivial
              · cases h
            · cases h
          · cases h
        · cases h
      · cases h
    · cases h
  case slice t x lo hi mx =>
    simp only [cls] at hc
    split at hc <;> cases hc
  case call c =>
    simp only [cls] at hc
    split at hc <;> simp_all
  all_goals first | (simp [cls] at hc; done) | (simp [opA] at h; done)
end
end Go.Sx
