/- What one operation that calls nobody does: structs, loads, stores, numbers, texts. -/
import Derived.Test.YtkcfdkfdmglamaaSyC
import Derived.Laws.StructEq
import Derived.Deep.MidRow
set_option linter.unusedVariables false
set_option linter.unusedSimpArgs false
namespace Go.Sx
open Go.RowKit (wrap64)

/-! ### lists -/
def splice {α : Type} (l : List α) (off : Nat) (vs : List α) : List α := l.take off ++ vs ++ l.drop (off + vs.length)
theorem splice_rel {hp : Hp} {ν : Nat → Value} {xs : List SC} {us : List Value} {ys : List SC} {vs : List Value} (off : Nat) (h : CsRel hp ν xs us) (k : CsRel hp ν ys vs) : CsRel hp ν (spliceS xs off ys) (splice us off vs) := by
  unfold spliceS splice
  rw [k.len]
  exact ((h.take off).append k).append (h.drop _)
theorem foldl_set (off : Nat) : ∀ (vs : List Value) (k : Nat) (cur : Array Value), off + k + vs.length ≤ cur.size →
    ((vs.zipIdx k).foldl (fun cs p => cs.setIfInBounds (off + p.2) p.1) cur).toList = cur.toList.take (off + k) ++ vs ++ cur.toList.drop (off + k + vs.length)
  | [], k, cur, h => by simp
  | v :: vs, k, cur, h => by
    simp only [List.zipIdx_cons, List.foldl_cons]
    rw [foldl_set off vs (k + 1) (cur.setIfInBounds (off + k) v) (by simp at h ⊢; omega)]
    have := list_seg_step cur.toList (off + k) v vs (by simp at h ⊢; omega)
    simpa [Array.toList_setIfInBounds, Nat.add_assoc] using this
theorem fill_step (vs : Array Value) (off : Nat) (cur : Array Value) (h : off + vs.size ≤ cur.size) :
    (vs.zipIdx.foldl (fun cs p => cs.setIfInBounds (off + p.2) p.1) cur).toList = splice cur.toList off vs.toList := by
  rw [← Array.foldl_toList, Array.toList_zipIdx]
  have := foldl_set off vs.toList 0 cur (by simpa using h)
  simpa [splice] using this
theorem fill_rel {hp : Hp} {ν : Nat → Value} {pl : List (Nat × Nat)} : ∀ {ps : List (Nat × SV)} {vs : List (Nat × Value)} {z cs : List SC} {zv : Array Value},
    fillS pl z ps = some cs → vs.length = ps.length → (∀ (j i : Nat) (x : SV), ps[j]? = some (i, x) → ∃ v, vs[j]? = some (i, v) ∧ VRel hp ν x v) → CsRel hp ν z zv.toList →
    ∃ cv, Instr.fill (pl.toArray[·]?) zv vs = some cv ∧ CsRel hp ν cs cv.toList
  | [], [], z, cs, zv, h, _, _, hz => by
    simp only [fillS, Option.some.injEq] at h
    subst h
    exact ⟨zv, rfl, hz⟩
  | (i, x) :: ps, (i', v) :: vs, z, cs, zv, h, hl, hr, hz => by
    have h0 := hr 0 i x (by simp)
    obtain ⟨v', hv', hx⟩ := h0
    simp only [List.getElem?_cons_zero, Option.some.injEq, Prod.mk.injEq] at hv'
    obtain ⟨rfl, rfl⟩ := hv'
    cases x with
    | any => simp [fillS] at h
    | tup xs => simp [fillS] at h
    | a g ys =>
      simp only [fillS] at h
      cases hp' : pl[i']? with
      | none => rw [hp'] at h; simp at h
      | some q =>
        obtain ⟨off, m⟩ := q
        rw [hp'] at h
        simp only [] at h
        cases hc : (Nat.beq ys.length m && Nat.ble (off + ys.length) z.length) with
        | false => rw [hc] at h; simp at h
        | true =>
          rw [hc] at h
          simp only [cnd_true] at h
          rw [Bool.and_eq_true] at hc
          have h1 := Nat.eq_of_beq_eq_true hc.1
          have h2 := Nat.le_of_ble_eq_true hc.2
          have hy : CsRel hp ν ys v.cells.toList := ARel.cells hx
          have hlen := hy.len
          have hlz := hz.len
          simp at hlen hlz
          have hstep := fill_step v.cells off zv (by omega)
          obtain ⟨cv, hcv, hrel⟩ := fill_rel (ps := ps) (vs := vs) (zv := v.cells.zipIdx.foldl (fun cs p => cs.setIfInBounds (off + p.2) p.1) zv) h (by simpa using hl)
            (fun j i x hj => by
              obtain ⟨u, hu, hux⟩ := hr (j + 1) i x (by simpa using hj)
              exact ⟨u, by simpa using hu, hux⟩) (by rw [hstep]; exact splice_rel off hz hy)
          refine ⟨cv, ?_, hrel⟩
          rw [Instr.fill]
          have hp2 : pl.toArray[i']? = some (off, m) := by simpa using hp'
          simp only [hp2]
          rw [if_neg (by simp; omega)]
          exact hcv
  | [], _ :: _, _, _, _, _, hl, _, _ => by simp at hl
  | _ :: _, [], _, _, _, _, hl, _, _ => by simp at hl
theorem parts_get (e : Operand → SV) (ρ : Operand → Value) {hp : Hp} {ν : Nat → Value} (he : ∀ x, VRel hp ν (e x) (ρ x)) (ps : Array (Nat × Operand)) :
    ∀ (j i : Nat) (x : SV), (ps.toList.map fun p => (p.1, e p.2))[j]? = some (i, x) → ∃ v, (ps.map fun (p : Nat × Operand) => (p.1, ρ p.2)).toList[j]? = some (i, v) ∧ VRel hp ν x v := by
  intro j i x h
  simp only [List.getElem?_map, Option.map_eq_some_iff] at h
  obtain ⟨p, hp', hq⟩ := h
  simp only [Prod.mk.injEq] at hq
  obtain ⟨rfl, rfl⟩ := hq
  exact ⟨ρ p.2, by simp only [Array.toList_map, List.getElem?_map, hp', Option.map_some], he p.2⟩
section
variable {P : Program} {base : Nat} {G : Nat → Prop} {w0 w : World} {hp : Hp} {ν : Nat → Value} {ρ : Operand → Value} {e : Operand → SV} {o : Oper}
theorem good_build {t : TypeId} {ps : Array (Nat × Operand)} {z cs : List SC} {pl : List (Nat × Nat)} (ho : o.op = .build t ps) (hz : zeroC P t = some (true, z)) (hpl : placesOf P t = some pl)
    (hf : fillS pl z (ps.toList.map fun p => (p.1, e p.2)) = some cs) (he : ∀ x, VRel hp ν (e x) (ρ x)) (hm : Mem base G w0 w hp ν) : Good P base G w0 hp ν ρ o w (.a true cs) hp := by
  obtain ⟨i, zv, hi, hzv, hr⟩ := zeroC_rel hz
  obtain ⟨cv, hcv, hrel⟩ := fill_rel (hp := hp) (ν := ν) (vs := (ps.map fun (p : Nat × Operand) => (p.1, ρ p.2)).toList) hf (by simp) (parts_get e ρ he ps) (hr hp ν).cells
  refine good_same (u := .agg cv) ?_ ⟨cv, rfl, hrel⟩ hm
  have hb : P.built t (ps.map fun (p : Nat × Operand) => (p.1, ρ p.2)).toList = some cv := by
    unfold placesOf at hpl
    split at hpl
    · rename_i fs hu
      unfold Program.built
      simp only [hi, hu, hzv, hpl]
      exact hcv
    · simp at hpl
  have := run_build (P := P) w t _ cv hb
  unfold execOp
  rw [ho]
  simp only [Sem.run_bind]
  rw [this]
  rfl
theorem cellAt_run {t : TypeId} {cs : List SC} {vs : List Value} {off : Nat} {v : SV} {a : Addr} (h : cellAt P t cs off = some v) (hc : CsRel hp ν cs vs) (ha : ∀ j u, vs[off + j]? = some u → w.cell? (a.add j) = some u) :
    ∃ u, (loadVar t a).run P w = .ok u w ∧ VRel hp ν v u := by
  unfold cellAt at h
  split at h
  · rename_i n h1 h2
    cases hb : Nat.ble (off + n) cs.length with
    | false => rw [hb] at h; simp at h
    | true =>
      rw [hb] at h
      simp only [cnd_true, Option.some.injEq] at h
      subst h
      have hle := Nat.le_of_ble_eq_true hb
      obtain ⟨i, hi, hn⟩ := szOf_some h2
      have hrel := (hc.drop off).take n
      have hl := hc.len
      have hlen : ((vs.drop off).take n).length = n := by simp; omega
      refine ⟨.agg ((vs.drop off).take n).toArray, ?_, ⟨_, rfl, by simpa using hrel⟩⟩
      have := run_loadCells_list (P := P) w a ((vs.drop off).take n) (fun j u hu => by
        rw [List.getElem?_take] at hu
        split at hu
        · rw [List.getElem?_drop] at hu; exact ha j u hu
        · simp at hu)
      rw [hlen] at this
      simp [loadVar, isAg_run h1, sizeOf, typeInfo, hi, hn, this]
  · rename_i h1
    split at h
    · rename_i x hx
      simp only [Option.some.injEq] at h
      subst h
      obtain ⟨u, hu, hux⟩ := hc.get hx
      refine ⟨u, ?_, ⟨x, rfl, hux⟩⟩
      have hcell := ha 0 u (by simpa using hu)
      have : w.cell? a = some u := by simpa [Addr.add] using hcell
      simp [loadVar, isAg_run h1, load, Sem.run, this]
    · simp at h
  · simp at h
/-- Where a row's elements lie. -/
theorem row_reads {n : Nat} {A : Addr} {L c : Nat} {ty : Ty} {l : List ty.T} {e' : TypeId} {en : Ent} (hen : en = .row ty l e' ∨ en = .ro ty l e' ∨ en = .ex ty l e') (h : EntRel base hp ν w en (ν n)) (hv : ν n = .slice (some A) L c) :
    L = l.length ∧ (0 < L → ∀ j u, (ty.flat l)[j]? = some u → w.cell? (A.add j) = some u) := by
  rcases hen with rfl | rfl | rfl
  · have h' : w.ownsRow 0 e' ty.size (ν n) l.length (ty.flat l) := h
    rcases h'.2 with ⟨h1, h2⟩ | ⟨g, cap, cur, h1, _⟩
    · rw [hv] at h1; simp at h1
    · rw [hv] at h1
      simp only [Value.slice.injEq, Option.some.injEq] at h1
      obtain ⟨rfl, rfl, rfl⟩ := h1
      refine ⟨rfl, fun _ j u hu => ?_⟩
      have := h'.cells (g := g) (by rw [hv]; rfl) j u hu
      exact this
  · obtain ⟨A', c', h1, h2, h3, h4⟩ := h
    rw [hv] at h1
    simp only [Value.slice.injEq] at h1
    obtain ⟨h1, rfl, rfl⟩ := h1
    refine ⟨rfl, fun hp' => ?_⟩
    obtain ⟨a, h5, h6⟩ := h4 (List.length_pos_iff.1 hp')
    rw [← h1] at h5
    injection h5 with h5
    subst h5
    exact h6
  · rcases h with ⟨h1, h2⟩ | ⟨g, off, c', vs, e2, fz, h1, h2, h3, h4, h5, h6, h7⟩
    · rw [hv] at h1; simp at h1
    · rw [hv] at h1
      simp only [Value.slice.injEq, Option.some.injEq] at h1
      obtain ⟨rfl, rfl, rfl⟩ := h1
      refine ⟨rfl, fun _ j u hu => ?_⟩
      rw [Addr.add_mid, cell_of_row w g _ vs e2 fz h4]
      exact h7 j u hu
theorem get_at (t : Ty) (l : List t.T) (i : Int) (h0 : 0 ≤ i) (h1 : i < (l.length : Int)) : t.get l i = l[i.toNat]'(by omega) := by
  unfold Ty.get
  rw [List.getD_eq_getElem?_getD, List.getElem?_eq_getElem (by omega)]
  rfl
theorem load_core {t : TypeId} {sx : SV} {ux : Value} {av : Av} {cs : List SB} {v : SV} {hp' : Hp} (h : loadA P av t hp sx = some (cs, v, hp')) (he : VRel hp ν sx ux) (hm : Mem base G w0 w hp ν) :
    ∃ a r, ux = .pointer (some a) ∧ (loadVar t a).run P w = .ok r w ∧ VRel hp ν v r ∧ hp' = hp ∧ cs = [] := by
  unfold loadA at h
  split at h
  · rename_i n off
    obtain ⟨y, hy, hcr⟩ := he
    injection hy with hy _
    subst hy
    obtain ⟨hnf, g, hg, hx⟩ := hcr
    split at h
    · rename_i bs tt hb
      cases hrd : rdOk av n with
      | false => rw [hrd] at h; simp at h
      | true =>
        rw [hrd] at h
        simp only [cnd_true] at h
        split at h
        · rename_i v' hc
          simp only [Option.some.injEq, Prod.mk.injEq] at h
          obtain ⟨rfl, rfl, rfl⟩ := h
          have hent := hm.ent n
          rw [hb] at hent
          obtain ⟨g', vs, hg', hheap, hrel⟩ := hent
          rw [hg] at hg'
          simp only [Value.pointer.injEq, Option.some.injEq, Addr.mk.injEq, and_true] at hg'
          subst hg'
          obtain ⟨u, hu, hv⟩ := cellAt_run (w := w) (a := ⟨g, off, none⟩) hc hrel (fun j u hu => by
            rw [Addr.add_mid, cell_of_row w g _ vs tt (0, 0) hheap]
            simpa using hu)
          exact ⟨_, u, hx, hu, hv, rfl, rfl⟩
        · simp at h
    · simp at h
  · rename_i n sz i off
    obtain ⟨y, hy, hcr⟩ := he
    injection hy with hy _
    subst hy
    obtain ⟨hnf, A, l, c, hs, hx, hi0, hil⟩ := hcr
    have main : ∀ (ty : Ty) (l' : List ty.T) (e' : TypeId) (v' : SV), (hp n = .row ty l' e' ∨ hp n = .ro ty l' e' ∨ hp n = .ex ty l' e') → sz = ty.size → cellAt P t (ty.sc (ty.get l' i)) off = some v' → ∃ u, (loadVar t (A.add (i.toNat * sz + off))).run P w = .ok u w ∧ VRel hp ν v' u := by
      intro ty l' e' v' hen hsz hc
      obtain ⟨rfl, hreads⟩ := row_reads (en := hp n) hen (hm.ent n) hs
      have hil' : i.toNat < l'.length := by omega
      have hg := get_at ty l' i hi0 hil
      rw [hg] at hc
      refine cellAt_run (w := w) (a := A.add (i.toNat * sz + off)) hc (Ty.sc_rel ty _) (fun j u hu => ?_)
      have hj : off + j < ty.size := by
        have := (List.getElem?_eq_some_iff.1 hu).1
        rwa [Ty.cells_len] at this
      rw [Addr.add_add, Nat.add_assoc, hsz]
      refine hreads (by omega) _ u ?_
      rw [Ty.flat_get ty l' i.toNat (off + j) hil' hj]
      exact hu
    split at h
    · rename_i ty l' e' hen
      cases hb : (rdOk av n && Nat.beq sz ty.size) with
      | false => rw [hb] at h; simp at h
      | true =>
        rw [hb] at h
        rw [Bool.and_eq_true] at hb
        simp only [cnd_true] at h
        split at h
        · rename_i v' hc
          simp only [Option.some.injEq, Prod.mk.injEq] at h
          obtain ⟨rfl, rfl, rfl⟩ := h
          obtain ⟨u, hu, hv⟩ := main ty l' e' v' (.inl hen) (Nat.eq_of_beq_eq_true hb.2) hc
          exact ⟨_, u, hx, hu, hv, rfl, rfl⟩
        · simp at h
    · rename_i ty l' e' hen
      cases hb : (Nat.beq sz ty.size) with
      | false => rw [hb] at h; simp at h
      | true =>
        rw [hb] at h
        simp only [cnd_true] at h
        split at h
        · rename_i v' hc
          simp only [Option.some.injEq, Prod.mk.injEq] at h
          obtain ⟨rfl, rfl, rfl⟩ := h
          obtain ⟨u, hu, hv⟩ := main ty l' e' v' (.inr (.inl hen)) (Nat.eq_of_beq_eq_true hb) hc
          exact ⟨_, u, hx, hu, hv, rfl, rfl⟩
        · simp at h
    · rename_i ty l' e' hen
      cases hb : (rdOk av n && Nat.beq sz ty.size) with
      | false => rw [hb] at h; simp at h
      | true =>
        rw [hb] at h
        rw [Bool.and_eq_true] at hb
        simp only [cnd_true] at h
        split at h
        · rename_i v' hc
          simp only [Option.some.injEq, Prod.mk.injEq] at h
          obtain ⟨rfl, rfl, rfl⟩ := h
          obtain ⟨u, hu, hv⟩ := main ty l' e' v' (.inr (.inr hen)) (Nat.eq_of_beq_eq_true hb.2) hc
          exact ⟨_, u, hx, hu, hv, rfl, rfl⟩
        · simp at h
    · simp at h
  · simp at h
theorem good_load {t : TypeId} {x : Operand} {av : Av} {cs : List SB} {v : SV} {hp' : Hp} (ho : o.op = .load t x) (h : loadA P av t hp (e x) = some (cs, v, hp')) (he : VRel hp ν (e x) (ρ x)) (hm : Mem base G w0 w hp ν) :
    Good P base G w0 hp ν ρ o w v hp' ∧ cs = [] := by
  obtain ⟨a, r, hx, hr, hv, rfl, rfl⟩ := load_core (w := w) h he hm
  refine ⟨good_same (u := r) ?_ hv hm, rfl⟩
  unfold execOp
  rw [ho]
  simp [Instr.loadAt, Instr.sureAddr, hx, hr]
end
end Go.Sx
