/- What one operation that calls nobody does, and that the symbolic one tells it. -/
import Derived.Test.YtkcfdkfdmglamaaSyB
import Derived.Laws.Tables
import Derived.Laws.BytesString
import Derived.Laws.Rows
set_option linter.unusedVariables false
set_option linter.unusedSimpArgs false
namespace Go.Sx
open Go.RowKit (wrap64)

theorem wr_eq (k : IntKind) (n : Int) : wr k n = k.wrap n := by
  cases k <;> simp only [wr]
  · simp only [IntKind.wrap, IntKind.bits, IntKind.signed, wrap64]
    simp
    split <;> omega
  all_goals simp [IntKind.wrap, IntKind.bits, IntKind.signed]
theorem cond_b {α : Type} : ∀ (s : SB) (x y : α), s.cond x y = if s.b = true then x else y
  | .lit true, _, _ => by simp [SB.cond, SB.b]
  | .lit false, _, _ => by simp [SB.cond, SB.b]
  | .lt a b, x, y => by simp [SB.cond, SB.b]
  | .le a b, x, y => by simp [SB.cond, SB.b]
  | .eq a b, x, y => by simp [SB.cond, SB.b]
  | .not s, x, y => by rw [SB.cond, cond_b s y x]; simp only [SB.b]; by_cases h : s.b = true <;> simp [h]
  | .and s t, x, y => by rw [SB.cond, cond_b s, cond_b t]; simp only [SB.b]; by_cases h : s.b = true <;> by_cases h2 : t.b = true <;> simp [h, h2]
  | .v b, x, y => by by_cases h : b = true <;> simp [SB.cond, SB.b, h]
  | .se a b, x, y => by simp [SB.cond, SB.b]

/-- What an operation yields, and the world behind it. -/
def Did (P : Program) (ρ : Operand → Value) (o : Oper) (w : World) (u : Value) (w' : World) : Prop :=
  (execOp ρ o).run P w = .ok (.value u) w' ∨ ((execOp ρ o).run P w = .ok .skip w' ∧ u = undef)
def Good (P : Program) (base : Nat) (G : Nat → Prop) (w0 : World) (hp : Hp) (ν : Nat → Value) (ρ : Operand → Value) (o : Oper) (w : World) (v : SV) (hp' : Hp) : Prop :=
  ∃ u w' ν', Did P ρ o w u w' ∧ VRel hp' ν' v u ∧ Mem base G w0 w' hp' ν' ∧ Ext hp ν hp' ν'

theorem SC.ofV_rel {hp : Hp} {ν : Nat → Value} {v : Value} {x : SC} (h : SC.ofV v = some x) : CRel hp ν x v := by
  unfold SC.ofV at h
  split at h <;> first
    | (simp only [Option.some.injEq] at h; subst h; first | rfl | trivial)
    | simp at h
theorem SC.ofVs_rel {hp : Hp} {ν : Nat → Value} : ∀ {vs : List Value} {xs : List SC}, SC.ofVs vs = some xs → CsRel hp ν xs vs
  | [], xs, h => by simp only [SC.ofVs, Option.some.injEq] at h; subst h; trivial
  | v :: vs, xs, h => by
    simp only [SC.ofVs] at h
    split at h
    · rename_i x y h1 h2
      simp only [Option.some.injEq] at h
      subst h
      exact ⟨SC.ofV_rel h1, SC.ofVs_rel h2⟩
    · simp at h
theorem SV.ofV_rel {hp : Hp} {ν : Nat → Value} (v : Value) : VRel hp ν (SV.ofV v) v := by
  unfold SV.ofV
  split
  · rename_i cs
    split
    · rename_i xs h; exact ⟨cs, rfl, SC.ofVs_rel h⟩
    · trivial
  · rename_i vs
    split
    · rename_i h; exact ⟨vs, rfl, by rw [h]; trivial⟩
    · trivial
  · split
    · rename_i x h; exact ⟨x, rfl, SC.ofV_rel h⟩
    · trivial
theorem Ext.new {hp : Hp} {ν : Nat → Value} {nm : Nat} (hn : hp nm = .free) (e : Ent) (v : Value) : Ext hp ν (upd hp nm e) (upd ν nm v) := ⟨fun n hne => by
    have : n ≠ nm := fun e => by subst e; exact hne hn
    rw [upd_other _ _ this, upd_other _ _ this]; exact ⟨hne, rfl⟩⟩
theorem zeroC_rel {P : Program} {t : TypeId} {g : Bool} {cs : List SC} (h : zeroC P t = some (g, cs)) : ∃ i z, P.info? t = some i ∧ i.zero = some z ∧ ∀ hp ν, ARel hp ν g cs z := by
  unfold zeroC at h
  split at h
  · rename_i i hi
    split at h
    · rename_i v hv
      split at h
      · rename_i g' cs' hs
        simp only [Option.some.injEq, Prod.mk.injEq] at h
        obtain ⟨rfl, rfl⟩ := h
        refine ⟨i, v, hi, hv, fun hp ν => ?_⟩
        have := SV.ofV_rel (hp := hp) (ν := ν) v
        rw [hs] at this
        exact this
      · simp at h
    · simp at h
  · simp at h
theorem szOf_some {P : Program} {t : TypeId} {n : Nat} (h : szOf P t = some n) : ∃ i, P.info? t = some i ∧ i.size = n := by
  unfold szOf at h
  cases hi : P.info? t with
  | none => rw [hi] at h; simp at h
  | some i => rw [hi] at h; exact ⟨i, rfl, by simpa using h⟩
theorem isAg_run {P : Program} {t : TypeId} {b : Bool} (h : isAg P t = some b) (w : World) : (isAgg t).run P w = .ok b w := by
  unfold isAg at h
  split at h <;> first
    | (rename_i hu; simp only [Option.some.injEq] at h; subst h; simp [isAgg, run_underlying hu]; done)
    | (simp at h; done)
    | skip
theorem sliceOf_some {P : Program} {t e : TypeId} (h : sliceOf P t = some e) : P.underlying t = some (.slice e) := by
  unfold sliceOf at h
  split at h
  · rename_i e' hu; simp only [Option.some.injEq] at h; subst h; exact hu
  · simp at h
theorem elTy_some {P : Program} {e : TypeId} {ty : Ty} (h : elTy P e = some ty) : ∃ i, P.info? e = some i ∧ i.size = ty.size := by
  unfold elTy at h
  split at h
  · rename_i ty' n h1 h2
    obtain ⟨i, hi, hn⟩ := szOf_some h2
    cases hb : Nat.beq ty'.size n with
    | false => rw [hb] at h; simp at h
    | true =>
      rw [hb] at h
      simp only [cnd_true, Option.some.injEq] at h
      subst h
      exact ⟨i, hi, hn.trans (Nat.eq_of_beq_eq_true hb).symm⟩
  · simp at h
section
variable {P : Program} {base : Nat} {G : Nat → Prop} {w0 w : World} {hp : Hp} {ν : Nat → Value} {ρ : Operand → Value} {o : Oper}
theorem good_same {u : Value} {v : SV} (h : (execOp ρ o).run P w = .ok (.value u) w) (hv : VRel hp ν v u) (hm : Mem base G w0 w hp ν) : Good P base G w0 hp ν ρ o w v hp :=
  ⟨u, w, ν, .inl h, hv, hm, .refl _ _⟩
theorem mk_some {nm : Nat} {v v' : SV} {e : Ent} {cs : List SB} {hp' : Hp} (h : mk hp nm v e = some (cs, v', hp')) : hp nm = .free ∧ cs = [] ∧ v' = v ∧ hp' = upd hp nm e := by
  unfold mk at h
  split at h
  · rename_i hf
    simp only [Option.some.injEq, Prod.mk.injEq] at h
    exact ⟨hf, h.1.symm, h.2.1.symm, h.2.2.symm⟩
  · simp at h
/-- A fresh box. -/
theorem good_box {t : TypeId} {nm : Nat} {x : Value} {cs : List SC} (hn : hp nm = .free) (hr : (execOp ρ o).run P w = .ok (.value (.pointer (some ⟨w.heap.size, 0, none⟩))) (w.alloc (.cells x.cells t)))
    (hx : CsRel hp ν cs x.cells.toList) (hm : Mem base G w0 w hp ν) : Good P base G w0 hp ν ρ o w (one (.ptr nm 0)) (upd hp nm (.box cs t)) := by
  have hext := Ext.new (ν := ν) hn (.box cs t) (.pointer (some ⟨w.heap.size, 0, none⟩))
  have hmem := hm.new (w' := w.alloc (.cells x.cells t)) hn (e := .box cs t) (v := .pointer (some ⟨w.heap.size, 0, none⟩)) rfl rfl rfl (by simp) (fun k hk => heap_alloc_old _ _ _ hk)
    (fun g hg => by simp [blk] at hg; omega) ⟨w.heap.size, x.cells, rfl, heap_alloc_new _ _, hx.mono hext⟩ (by simp)
  refine ⟨_, _, _, .inl hr, ?_, hmem.1, hmem.2⟩
  exact ⟨_, rfl, by rw [upd_same]; simp, w.heap.size, by rw [upd_same], rfl⟩
/-- A fresh row, whole. -/
theorem good_row {ty : Ty} {l : List ty.T} {e : TypeId} {nm : Nat} {cur : Array Value} {cap : Nat} (hn : hp nm = .free) (hr : (execOp ρ o).run P w = .ok (.value (.slice (some ⟨w.heap.size, 0, none⟩) l.length cap)) (w.alloc (.cells cur e)))
    (hc : l.length ≤ cap) (hcap : cap ≤ maxLen) (hs : cur.size = cap * ty.size) (hcur : cur.toList.take (l.length * ty.size) = ty.flat l) (hm : Mem base G w0 w hp ν) : Good P base G w0 hp ν ρ o w (one (.sl nm)) (upd hp nm (.row ty l e)) := by
  have hmem := hm.new (w' := w.alloc (.cells cur e)) hn (e := .row ty l e) (v := .slice (some ⟨w.heap.size, 0, none⟩) l.length cap) rfl rfl rfl (by simp) (fun k hk => heap_alloc_old _ _ _ hk)
    (fun g hg => by simp [blk] at hg; omega) ⟨by rw [Ty.flat_len], .inr ⟨w.heap.size, cap, cur, rfl, Nat.zero_le _, heap_alloc_new _ _, hc, hcap, hs, hcur⟩⟩ (by simp)
  refine ⟨_, _, _, .inl hr, ?_, hmem.1, hmem.2⟩
  exact ⟨_, rfl, by rw [upd_same]; simp, by rw [upd_same], _, _, _, rfl⟩
theorem good_alloc {t : TypeId} {nm : Nat} {g : Bool} {cs : List SC} (ho : o.op = .alloc t) (hz : zeroC P t = some (g, cs)) (hn : hp nm = .free) (hm : Mem base G w0 w hp ν) :
    Good P base G w0 hp ν ρ o w (one (.ptr nm 0)) (upd hp nm (.box cs t)) := by
  obtain ⟨i, z, hi, hz', hr⟩ := zeroC_rel hz
  refine good_box (x := z) hn ?_ (hr hp ν).cells hm
  unfold execOp
  rw [ho]
  simp [Instr.alloc, zeroValue, typeInfo, hi, hz', newVar, newRow, newObj, Sem.run]
theorem good_boxed {t : TypeId} {nm : Nat} {g : Bool} {cs : List SC} {x : Operand} (ho : o.op = .box t x) (hx : ARel hp ν g cs (ρ x)) (hn : hp nm = .free) (hm : Mem base G w0 w hp ν) :
    Good P base G w0 hp ν ρ o w (one (.ptr nm 0)) (upd hp nm (.box cs t)) := by
  refine good_box (x := ρ x) hn ?_ hx.cells hm
  unfold execOp
  rw [ho]
  simp [Instr.box, newVar, newRow, newObj, Sem.run]
end
end Go.Sx
