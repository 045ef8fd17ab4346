/- One operation among others: who writes. -/
import Derived.Test.YtkcfdkfdmglamaaSyU
set_option linter.unusedVariables false
set_option linter.unusedSimpArgs false
namespace Go.Sx
/-- What a writer keeps. -/
structure Keeps (av : Av) (hp hp1 : Hp) : Prop where
  old : ∀ n, hp n ≠ .free → (wrOk av n = false ∨ isRo (hp n) = true) → hp1 n = hp n
  lives : ∀ n, hp n ≠ .free → hp1 n ≠ .free
theorem Keeps.refl (av : Av) (hp : Hp) : Keeps av hp hp := ⟨fun _ _ _ => rfl, fun _ h => h⟩
theorem Keeps.fresh {av : Av} {hp : Hp} {nm : Nat} {E : Ent} (h : hp nm = .free) : Keeps av hp (upd hp nm E) :=
  ⟨fun n hn _ => upd_other _ _ fun e => by subst e; exact hn h, fun n hn => by rw [upd_other _ _ fun e => by subst e; exact hn h]; exact hn⟩
theorem Keeps.put {av : Av} {hp : Hp} {n : Nat} {E : Ent} (hw : wrOk av n = true) (hro : isRo (hp n) = false) (hE : E ≠ .free) : Keeps av hp (upd hp n E) := by
  refine ⟨fun m hm hh => upd_other _ _ fun e => ?_, fun m hm => ?_⟩
  · subst e
    rcases hh with hh | hh
    · rw [hw] at hh; cases hh
    · rw [hro] at hh; cases hh
  · by_cases e : m = n
    · subst e; rw [upd_same]; exact hE
    · rw [upd_other _ _ e]; exact hm
theorem Keeps.trans {av : Av} {hp hp1 hp2 : Hp} (h : Keeps av hp hp1) (k : Keeps av hp1 hp2) : Keeps av hp hp2 :=
  ⟨fun n hn hh => by
    have h1 := h.old n hn hh
    rw [k.old n (h.lives n hn) (by rw [h1]; exact hh), h1], fun n hn => k.lives n (h.lives n hn)⟩
theorem ne_free {hp : Hp} {n q : Nat} (hn : hp n ≠ .free) (hq : hp q = .free) : n ≠ q := fun e => by subst e; exact hn hq
section
variable {P : Program} {av : Av} {hp hp' hp1 : Hp}
theorem storeA_wr {t : TypeId} {x y : SV} {cs : List SB} {v : SV} (h : storeA P av t hp x y = some (cs, v, hp1)) :
    Keeps av hp hp1 ∧ ∀ q E, hp q = .free → storeA P av t (upd hp q E) x y = some (cs, v, upd hp1 q E) := by
  unfold storeA at h ⊢
  split at h
  · rename_i n off g vs
    split at h
    · rename_i cs0 tt m hh hs
      cases hb : (wrOk av n && (Nat.beq vs.length m && Nat.ble (off + m) cs0.length)) with
      | false => rw [hb] at h; cases h
      | true =>
        rw [hb] at h
        simp only [cnd_true, Option.some.injEq, Prod.mk.injEq] at h
        obtain ⟨rfl, rfl, rfl⟩ := h
        have hw := (Bool.and_eq_true_iff.1 hb).1
        refine ⟨.put hw (by rw [hh]; rfl) (by simp), fun q E hq => ?_⟩
        have hne : n ≠ q := ne_free (by rw [hh]; simp) hq
        simp only [upd_other _ _ hne, hh, hs, hb, cnd_true]
        rw [upd_comm hne]
    · cases h
  · rename_i n sz i off g vs
    split at h
    · rename_i ty l e m hh hs
      cases hb : (wrOk av n && Nat.beq sz ty.size && (Nat.beq vs.length m && Nat.ble (off + m) ty.size)) with
      | false => rw [hb] at h; cases h
      | true =>
        rw [hb] at h
        simp only [cnd_true] at h
        split at h
        · rename_i x hx
          simp only [Option.some.injEq, Prod.mk.injEq] at h
          obtain ⟨rfl, rfl, rfl⟩ := h
          have hw := (Bool.and_eq_true_iff.1 (Bool.and_eq_true_iff.1 hb).1).1
          refine ⟨.put hw (by rw [hh]; rfl) (by simp), fun q E hq => ?_⟩
          have hne : n ≠ q := ne_free (by rw [hh]; simp) hq
          simp only [upd_other _ _ hne, hh, hs, hb, cnd_true, hx]
          rw [upd_comm hne]
        · cases h
    · rename_i ty l e m hh hs
      split at h
      · rename_i l x
        cases hb : (wrOk av n && (Nat.beq sz 1 && (Nat.beq m 1 && Nat.beq off 0))) with
        | false => rw [hb] at h; cases h
        | true =>
          rw [hb] at h
          simp only [cnd_true, Option.some.injEq, Prod.mk.injEq] at h
          obtain ⟨rfl, rfl, rfl⟩ := h
          have hw := (Bool.and_eq_true_iff.1 hb).1
          refine ⟨.put hw (by rw [hh]; rfl) (by simp), fun q E hq => ?_⟩
          have hne : n ≠ q := ne_free (by rw [hh]; simp) hq
          simp only [upd_other _ _ hne, hh, hs, hb, cnd_true]
          rw [upd_comm hne]
      · cases h
    · cases h
  · cases h
theorem sliceA_wr {t : TypeId} {nm : Nat} {x : SV} {lo hi : Option SV} {cs : List SB} {v : SV} (h : sliceA P av t nm hp x lo hi = some (cs, v, hp1)) :
    Keeps av hp hp1 ∧ ∀ q E, hp q = .free → q ≠ nm → sliceA P av t nm (upd hp q E) x lo hi = some (cs, v, upd hp1 q E) := by
  unfold sliceA at h ⊢
  split at h
  · rename_i lo' hi' hlo hhi
    split at h
    · split at h
      · simp only [Option.some.injEq, Prod.mk.injEq] at h
        obtain ⟨rfl, rfl, rfl⟩ := h
        refine ⟨.refl _ _, fun q E hq hne => ?_⟩
        simp_all
      · cases h
    · rename_i n
      split at h
      · rename_i e' hf he'
        split at h
        · rename_i ty l e hh
          split at h
          · rename_i m hm
            cases hb : Nat.beq m ty.size with
            | false => rw [hb] at h; cases h
            | true =>
              rw [hb] at h
              simp only [cnd_true, Option.some.injEq, Prod.mk.injEq] at h
              obtain ⟨rfl, rfl, rfl⟩ := h
              refine ⟨.fresh hf, fun q E hq hne => ?_⟩
              have hn : n ≠ q := ne_free (by rw [hh]; simp) hq
              simp only [upd_other _ _ hn, upd_other _ _ (Ne.symm hne), hf, he', hh, hm, hb, cnd_true]
              rw [upd_comm (Ne.symm hne)]
          · cases h
        · rename_i ty l e hh
          split at h
          · rename_i m hm
            cases hb : (wrOk av n && Nat.beq m ty.size) with
            | false => rw [hb] at h; cases h
            | true =>
              rw [hb] at h
              simp only [cnd_true, Option.some.injEq, Prod.mk.injEq] at h
              obtain ⟨rfl, rfl, rfl⟩ := h
              have hw := (Bool.and_eq_true_iff.1 hb).1
              have hnn : nm ≠ n := fun e => by subst e; rw [hh] at hf; cases hf
              refine ⟨(Keeps.put (E := .dead) hw (by rw [hh]; rfl) (by simp)).trans (.fresh (by rw [upd_other _ _ hnn]; exact hf)), fun q E hq hne => ?_⟩
              have hn : n ≠ q := ne_free (by rw [hh]; simp) hq
              simp only [upd_other _ _ hn, upd_other _ _ (Ne.symm hne), hf, he', hh, hm, hb, cnd_true]
              rw [upd_comm (Ne.symm hne), upd_comm hn]
          · rename_i lo2 m hm
            cases hb : (wrOk av n && Nat.beq m ty.size) with
            | false => rw [hb] at h; cases h
            | true =>
              rw [hb] at h
              simp only [cnd_true, Option.some.injEq, Prod.mk.injEq] at h
              obtain ⟨rfl, rfl, rfl⟩ := h
              have hw := (Bool.and_eq_true_iff.1 hb).1
              have hnn : nm ≠ n := fun e => by subst e; rw [hh] at hf; cases hf
              refine ⟨(Keeps.put (E := .dead) hw (by rw [hh]; rfl) (by simp)).trans (.fresh (by rw [upd_other _ _ hnn]; exact hf)), fun q E hq hne => ?_⟩
              have hn : n ≠ q := ne_free (by rw [hh]; simp) hq
              simp only [upd_other _ _ hn, upd_other _ _ (Ne.symm hne), hf, he', hh, hm, hb, cnd_true]
              rw [upd_comm (Ne.symm hne), upd_comm hn]
          · cases h
        · cases h
      · cases h
    · cases h
  · cases h
theorem appendA_wr {t : TypeId} {nm : Nat} {x y : SV} {cs : List SB} {v : SV} (h : appendA P av t nm hp x y = some (cs, v, hp1)) :
    Keeps av hp hp1 ∧ ∀ q E, hp q = .free → q ≠ nm → appendA P av t nm (upd hp q E) x y = some (cs, v, upd hp1 q E) := by
  unfold appendA at h ⊢
  split at h
  · rename_i s x
    split at h
    · rename_i e he
      split at h
      · rename_i ty by_ g z hty hby hz
        split at h
        · rename_i m hm hf
          cases hb : (Nat.beq z.length ty.size && Nat.blt 0 by_) with
          | false => rw [hb] at h; cases h
          | true =>
            rw [hb] at h
            simp only [cnd_true] at h
            have hmq : ∀ q E, hp q = .free → readL none (upd hp q E) ty x = some m := fun q E hq => readL_sees hm ((grows_upd hq E).sees _)
            split at h
            · simp only [Option.some.injEq, Prod.mk.injEq] at h
              obtain ⟨rfl, rfl, rfl⟩ := h
              refine ⟨.fresh hf, fun q E hq hne => ?_⟩
              simp only [he, hty, hby, hz, hmq q E hq, upd_other _ _ (Ne.symm hne), hf, hb, cnd_true]
              rw [upd_comm (Ne.symm hne)]
            · rename_i n
              split at h
              · rename_i t' l e' hh
                split at h
                · rename_i hd hdd
                  cases hb2 : (wrOk av n && (Nat.beq e' e && notIn x n)) with
                  | false => rw [hb2] at h; cases h
                  | true =>
                    rw [hb2] at h
                    simp only [cnd_true, Option.some.injEq, Prod.mk.injEq] at h
                    obtain ⟨rfl, rfl, rfl⟩ := h
                    have hw := (Bool.and_eq_true_iff.1 hb2).1
                    have hnn : nm ≠ n := fun e => by subst e; rw [hh] at hf; cases hf
                    refine ⟨(Keeps.put (E := .dead) hw (by rw [hh]; rfl) (by simp)).trans (.fresh (by rw [upd_other _ _ hnn]; exact hf)), fun q E hq hne => ?_⟩
                    have hn : n ≠ q := ne_free (by rw [hh]; simp) hq
                    simp only [he, hty, hby, hz, hmq q E hq, upd_other _ _ (Ne.symm hne), upd_other _ _ hn, hf, hb, hb2, hh, hdd, cnd_true]
                    rw [upd_comm (Ne.symm hne), upd_comm hn]
                · cases h
              · cases h
            · cases h
        · cases h
      · cases h
    · cases h
  · cases h
theorem opA_cls34 {op : Op} {e : Operand → SV} {nm : Nat} {cs : List SB} {v : SV} (hc : cls P op = 3 ∨ cls P op = 4) (h : opA P av op e nm hp = some (cs, v, hp1)) :
    Keeps av hp hp1 ∧ ∀ q E, hp q = .free → q ≠ nm → opA P av op e nm (upd hp q E) = some (cs, v, upd hp1 q E) := by
  cases op
  case convert s d x =>
    exfalso
    simp only [cls] at hc
    split at hc <;> (rcases hc with hc | hc <;> cases hc)
  case store t x y =>
    simp only [opA] at h ⊢
    exact ⟨(storeA_wr h).1, fun q E hq _ => (storeA_wr h).2 q E hq⟩
  case slice t x lo hi mx =>
    cases mx with
    | some m => simp [opA] at h
    | none =>
      simp only [opA] at h ⊢
      exact sliceA_wr h
  case call c =>
    obtain ⟨callee, as, ts⟩ := c
    cases callee with
    | builtin b =>
      cases b
      case append =>
        simp only [opA] at h ⊢
        generalize as.toList.map e = L at h ⊢
        match L with
        | [s, x] =>
          simp only [builtinA] at h ⊢
          split at h
          · rename_i t t' hts
            cases hb2 : Nat.beq t t' with
            | false => rw [hb2] at h; cases h
            | true =>
              rw [hb2] at h
              simp only [cnd_true] at h
              have := appendA_wr h
              refine ⟨this.1, fun q E hq hne => ?_⟩
              simp only [cnd_true]
              exact this.2 q E hq hne
          · cases h
        | [] => simp [builtinA] at h
        | [_] => simp [builtinA] at h
        | _ :: _ :: _ :: _ => simp [builtinA] at h
      all_goals simp [cls] at hc
    | _ => simp [opA] at h
  all_goals first | (simp [cls] at hc; done) | (simp [opA] at h; done)
end
end Go.Sx
