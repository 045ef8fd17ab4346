/- Stores, addresses, rows that are laid at once. -/
import Derived.Test.YtkcfdkfdmglamaaSyD
import Derived.Laws.CopyRow
set_option linter.unusedVariables false
set_option linter.unusedSimpArgs false
namespace Go.Sx
open Go.RowKit (wrap64)

theorem take_splice (C F vs : List Value) (k m : Nat) (hF : C.take m = F) (hm : F.length = m) (hk : k + vs.length ≤ m) : (splice C k vs).take m = splice F k vs := by
  have hlen : m ≤ C.length := by
    have := congrArg List.length hF
    simp at this; omega
  unfold splice
  have e1 : C.take k = F.take k := by rw [← hF, List.take_take]; congr 1; omega
  rw [List.take_append, List.take_append]
  have l1 : (C.take k).length = k := by simp; omega
  have l2 : (C.take k ++ vs).length = k + vs.length := by simp; omega
  rw [l1, l2]
  have e2 : (C.take k).take m = F.take k := by rw [List.take_of_length_le (by rw [l1]; omega), e1]
  have e3 : vs.take (m - k) = vs := List.take_of_length_le (by omega)
  have e4 : (C.drop (k + vs.length)).take (m - (k + vs.length)) = F.drop (k + vs.length) := by rw [← hF, List.drop_take]
  rw [e2, e3, e4]
theorem flat_set (ty : Ty) (l : List ty.T) (i : Nat) (h : i < l.length) (off : Nat) (vs : List Value) (x : ty.T) (hoff : off + vs.length ≤ ty.size) (hx : ty.cells x = splice (ty.cells l[i]) off vs) :
    ty.flat (l.set i x) = splice (ty.flat l) (i * ty.size + off) vs := by
  have h1 : l = l.take i ++ l[i] :: l.drop (i + 1) := by simp
  have h2 : l.set i x = l.take i ++ x :: l.drop (i + 1) := by rw [List.set_eq_take_append_cons_drop, if_pos h]
  have f1 : ty.flat l = ty.flat (l.take i) ++ (ty.cells l[i] ++ ty.flat (l.drop (i + 1))) := by
    exact (congrArg ty.flat h1).trans (by simp only [Ty.flat, List.flatMap_append, List.flatMap_cons])
  have f2 : ty.flat (l.set i x) = ty.flat (l.take i) ++ (ty.cells x ++ ty.flat (l.drop (i + 1))) := by
    rw [h2]; simp [Ty.flat]
  have la : (ty.flat (l.take i)).length = i * ty.size := by rw [Ty.flat_len, List.length_take, Nat.min_eq_left (by omega)]
  have lb : (ty.cells l[i]).length = ty.size := Ty.cells_len ty _
  rw [f2, f1, hx]
  unfold splice
  rw [← la, List.take_length_add_append, Nat.add_assoc, List.drop_length_add_append]
  have hA : off ≤ (ty.cells l[i]).length := by omega
  have hB : off + vs.length ≤ (ty.cells l[i]).length := by omega
  rw [List.take_append_of_le_length hA, List.drop_append_of_le_length hB]
  simp [List.append_assoc]
section
variable {P : Program} {base : Nat} {G : Nat → Prop} {w0 w : World} {hp : Hp} {ν : Nat → Value} {ρ : Operand → Value} {e : Operand → SV} {o : Oper}
theorem storeVar_run {t tt : TypeId} {g off m : Nat} {cur : Array Value} {v : Value} (hg : w.heap[g]? = some (.cells cur tt (0, 0))) (hs : szOf P t = some m) (hl : v.cells.size = m) (hle : off + m ≤ cur.size) (h1 : ∀ u ∈ v.cells.toList, u.oneCell' = true) :
    (storeVar t ⟨g, off, none⟩ v).run P w = .ok () (w.setRow g (splice cur.toList off v.cells.toList).toArray) := by
  obtain ⟨i, hi, hn⟩ := szOf_some hs
  have := run_storeCells_at P g off tt v.cells.toList 0 cur w hg (by simp; omega) h1
  simp only [storeVar, sizeOf, typeInfo, Sem.run_bind]
  simp [hi, hn, hl]
  simpa [splice] using this
/-- One byte is written into a block of which no cell is frozen. -/
theorem storeOne_run {t : TypeId} {g off : Nat} {cur : Array Value} {tt : TypeId} {fz : Nat × Nat} {k : IntKind} {x : Int} {v : Value} (hv : v.cells.toList = [.int k x]) (hg : w.heap[g]? = some (.cells cur tt fz)) (hs : szOf P t = some 1) (hle : off < cur.size) (hfz : fz.2 ≤ fz.1 ∨ cur.size ≤ fz.1) :
    (storeVar t ⟨g, off, none⟩ v).run P w = .ok () (w.setCell ⟨g, off, none⟩ (.int k x)) := by
  obtain ⟨i, hi, hn⟩ := szOf_some hs
  have hc : w.cell? ⟨g, off, none⟩ = some cur[off] := by
    unfold World.cell?
    simp only [hg]
    simp [hle]
  have hf : w.frozen? ⟨g, off, none⟩ = false := by
    unfold World.frozen?
    simp only [hg]
    obtain ⟨lo, hi2⟩ := fz
    simp only [Bool.and_eq_false_iff, decide_eq_false_iff_not]
    simp only [] at hfz
    omega
  have hcells : v.cells = #[.int k x] := by rw [← Array.toArray_toList (xs := v.cells), hv]
  simp only [storeVar, sizeOf, typeInfo, Sem.run_bind]
  simp [hi, hn, hcells, storeCells, store, Addr.add]
  rw [Sem.run]
  · simp only [hc, hf]
    rfl
  · intro _ h; cases h
  · intro _ h; cases h
theorem setCell_heap {g off : Nat} {cur : Array Value} {tt : TypeId} {fz : Nat × Nat} {u : Value} (hg : w.heap[g]? = some (.cells cur tt fz)) : (w.setCell ⟨g, off, none⟩ u).heap[g]? = some (.cells (cur.setIfInBounds off u) tt fz) := by
  obtain ⟨lo, hi⟩ := fz
  unfold World.setCell
  simp only []
  rw [Array.getElem?_modify]
  simp [hg]
theorem setCell_other {g off : Nat} {u : Value} (k : Nat) (h : k ≠ g) : (w.setCell ⟨g, off, none⟩ u).heap[k]? = w.heap[k]? := by
  unfold World.setCell
  simp only []
  rw [Array.getElem?_modify, if_neg (fun e => h e.symm)]
theorem flat_u8 (l : List Int) : (Ty.int .u8).flat l = l.map (.int .u8) := by
  induction l with
  | nil => rfl
  | cons x l ih =>
    exact congrArg (Value.int .u8 x :: ·) ih
theorem ex_set (l : List Int) (vs : Array Value) (o2 i : Nat) (x : Int) (hoff : o2 + i < vs.size) (hil : i < l.length) (h7 : ∀ j u, ((Ty.int .u8).flat (l : List Int))[j]? = some u → vs[o2 + j]? = some u) :
    ∀ j u, ((Ty.int .u8).flat (List.set l i x : List Int))[j]? = some u → (vs.setIfInBounds (o2 + i) (.int .u8 x))[o2 + j]? = some u := by
  intro j u hu
  have e1 := flat_u8 (List.set l i x)
  have e2 := flat_u8 l
  have h7 := h7 j u
  rw [e1, List.getElem?_map] at hu
  rw [e2, List.getElem?_map] at h7
  by_cases hj : j = i
  · subst hj
    rw [List.getElem?_set_self hil] at hu
    simp only [Option.map_some, Option.some.injEq] at hu
    rw [Array.getElem?_setIfInBounds_self_of_lt hoff, hu]
  · rw [List.getElem?_set_ne (fun e => hj e.symm)] at hu
    rw [Array.getElem?_setIfInBounds_ne (by omega)]
    exact h7 hu
theorem good_store {t : TypeId} {x y : Operand} {av : Av} {cs : List SB} {v : SV} {hp' : Hp} (ho : o.op = .store t x y) (h : storeA P av t hp (e x) (e y) = some (cs, v, hp'))
    (he : ∀ x, VRel hp ν (e x) (ρ x)) (hm : Mem base G w0 w hp ν) : Good P base G w0 hp ν ρ o w v hp' ∧ cs = [] := by
  have hx := he x
  have hy := he y
  have key : ∀ a w', ρ x = .pointer (some a) → (storeVar t a (ρ y)).run P w = .ok () w' → Mem base G w0 w' hp' ν ∧ Ext hp ν hp' ν → v = .tup [] → Good P base G w0 hp ν ρ o w v hp' := by
    intro a w' hxa hr hme hv
    refine ⟨undef, w', ν, .inr ⟨?_, rfl⟩, ?_, hme.1, hme.2⟩
    · unfold execOp
      rw [ho]
      simp [Instr.storeAt, Instr.sureAddr, hxa, hr]
    · subst hv; exact ⟨#[], rfl, trivial⟩
  unfold storeA at h
  split at h
  · rename_i n off gy ys hex hey
    rw [hex] at hx
    rw [hey] at hy
    obtain ⟨z, hz, hcr⟩ := hx
    injection hz with hz _
    subst hz
    obtain ⟨hnf, g, hg, hxa⟩ := hcr
    have hyc : CsRel hp ν ys (ρ y).cells.toList := ARel.cells hy
    split at h
    · rename_i bs tt m hb hsz
      cases hc : (wrOk av n && (Nat.beq ys.length m && Nat.ble (off + m) bs.length)) with
      | false => rw [hc] at h; simp at h
      | true =>
        rw [hc] at h
        simp only [cnd_true, Option.some.injEq, Prod.mk.injEq] at h
        obtain ⟨rfl, rfl, rfl⟩ := h
        rw [Bool.and_eq_true, Bool.and_eq_true] at hc
        have c1 := Nat.eq_of_beq_eq_true hc.2.1
        have c2 := Nat.le_of_ble_eq_true hc.2.2
        have hent := hm.ent n
        rw [hb] at hent
        obtain ⟨g', vs, hg', hheap, hrel⟩ := hent
        rw [hg] at hg'
        simp only [Value.pointer.injEq, Option.some.injEq, Addr.mk.injEq, and_true] at hg'
        subst hg'
        have l1 := hyc.len
        have l2 := hrel.len
        simp at l1 l2
        have hr := storeVar_run (P := P) (t := t) (off := off) (v := ρ y) hheap hsz (by omega) (by omega) hyc.cells
        refine ⟨key _ _ hxa hr ?_ rfl, rfl⟩
        have hext : Ext hp ν (upd hp n (.box (spliceS bs off ys) tt)) ν := ⟨fun k hk => by
          by_cases hkn : k = n
          · subst hkn; rw [upd_same]; exact ⟨by simp, rfl⟩
          · rw [upd_other _ _ hkn]; exact ⟨hk, rfl⟩⟩
        refine hm.put (n := n) (g := g) (by rw [hb]; trivial) (by rw [hg]; rfl) rfl rfl rfl (by simp) (fun k hk hne => setRow_other w g k _ hne) ?_ trivial
        exact ⟨g, _, hg, setRow_heap w g vs _ tt _ hheap, by simpa using (splice_rel off hrel hyc).mono hext⟩
    · simp at h
  · rename_i n sz i off gy ys hex hey
    rw [hex] at hx
    rw [hey] at hy
    obtain ⟨z, hz, hcr⟩ := hx
    injection hz with hz _
    subst hz
    obtain ⟨hnf, A, L, c, hs, hxa, hi0, hil⟩ := hcr
    have hyc : CsRel hp ν ys (ρ y).cells.toList := ARel.cells hy
    split at h
    · rename_i ty l e' m hb hsz
      cases hc : (wrOk av n && Nat.beq sz ty.size && (Nat.beq ys.length m && Nat.ble (off + m) ty.size)) with
      | false => rw [hc] at h; simp at h
      | true =>
        rw [hc] at h
        simp only [cnd_true] at h
        split at h
        · rename_i x' hof
          simp only [Option.some.injEq, Prod.mk.injEq] at h
          obtain ⟨rfl, rfl, rfl⟩ := h
          simp only [Bool.and_eq_true] at hc
          have c0 := Nat.eq_of_beq_eq_true hc.1.2
          have c1 := Nat.eq_of_beq_eq_true hc.2.1
          have c2 := Nat.le_of_ble_eq_true hc.2.2
          have hent := hm.ent n
          rw [hb] at hent
          have hown : w.ownsRow 0 e' ty.size (ν n) l.length (ty.flat l) := hent
          have hin := (row_reads (en := hp n) (.inl hb) (hm.ent n) hs).1
          subst hin
          have hil' : i.toNat < l.length := by omega
          rcases hown.2 with ⟨h1, h2⟩ | ⟨g, cap, cur, h1, hbg, hheap, hnc, hcm, hcs, htake⟩
          · rw [hs] at h1; simp at h1
          · rw [hs] at h1
            simp only [Value.slice.injEq, Option.some.injEq, true_and] at h1
            obtain ⟨rfl, rfl⟩ := h1
            subst c0
            have l1 := hyc.len
            simp at l1
            have hgx := get_at ty l i hi0 hil
            rw [hgx] at hof
            obtain ⟨us, hus, hnil⟩ := Ty.of_rel (hp := hp) (ν := ν) ty hof (splice_rel off (Ty.sc_rel ty l[i.toNat]) hyc)
            have hus0 : us = [] := by
              cases us with
              | nil => rfl
              | cons _ _ => exact hnil.elim
            subst hus0
            rw [List.append_nil] at hus
            have hmul : (i.toNat + 1) * ty.size ≤ l.length * ty.size := Nat.mul_le_mul_right _ (by omega)
            have hmul2 : l.length * ty.size ≤ c * ty.size := Nat.mul_le_mul_right _ hnc
            rw [Nat.add_mul, Nat.one_mul] at hmul
            have hbound : i.toNat * ty.size + off + m ≤ cur.size := by rw [hcs]; omega
            have hr := storeVar_run (P := P) (t := t) (off := i.toNat * ty.size + off) (v := ρ y) hheap hsz (by omega) hbound hyc.cells
            rw [Addr.add_mid, Nat.zero_add] at hxa
            refine ⟨key _ _ hxa hr ?_ rfl, rfl⟩
            refine hm.put (n := n) (g := g) (by rw [hb]; trivial) (by rw [hs]; rfl) rfl rfl rfl (by simp) (fun k hk hne => setRow_other w g k _ hne) ?_ trivial
            have hfl := flat_set ty l i.toNat hil' off (ρ y).cells.toList x' (by simp; omega) hus.symm
            refine ⟨by rw [Ty.flat_len], .inr ⟨g, c, _, by rw [hs]; simp, hbg, setRow_heap w g cur _ e' _ hheap, by simpa using hnc, hcm, ?_, ?_⟩⟩
            · simp [splice]; omega
            · rw [hfl]
              simp only [List.length_set]
              exact take_splice _ _ _ _ _ htake (by rw [Ty.flat_len]) (by simp; omega)
        · simp at h
    · rename_i ty l e' m hb hsz
      split at h
      case h_2 => simp at h
      rename_i l x
      cases hc : (wrOk av n && (Nat.beq sz 1 && (Nat.beq m 1 && Nat.beq off 0))) with
      | false => rw [hc] at h; simp at h
      | true =>
        rw [hc] at h
        simp only [cnd_true, Option.some.injEq, Prod.mk.injEq] at h
        obtain ⟨rfl, rfl, rfl⟩ := h
        simp only [Bool.and_eq_true] at hc
        have c0 := Nat.eq_of_beq_eq_true hc.2.1
        have c1 := Nat.eq_of_beq_eq_true hc.2.2.1
        have c2 := Nat.eq_of_beq_eq_true hc.2.2.2
        subst c0 c1 c2
        have hent := hm.ent n
        rw [hb] at hent
        rcases hent with ⟨h1, _⟩ | ⟨g, o2, c', vs, e2, fz, h1, h2, h3, h4, h5, h6, h7⟩
        · rw [hs] at h1; simp at h1
        · rw [hs] at h1
          simp only [Value.slice.injEq, Option.some.injEq] at h1
          obtain ⟨rfl, rfl, rfl⟩ := h1
          have hil' : i.toNat < l.length := by omega
          have h5 : o2 + l.length * 1 ≤ vs.size := h5
          have hyl : (ρ y).cells.toList = [.int .u8 x] := by
            generalize (ρ y).cells.toList = q at hyc
            match q, hyc with
            | [v], hyc =>
              have h8 : v = .int .u8 x := hyc.1
              rw [h8]
            | [], hyc => exact hyc.elim
            | _ :: _ :: _, hyc => exact hyc.2.elim
          have hoff : o2 + i.toNat < vs.size := by omega
          rw [Addr.add_mid] at hxa
          have ha : o2 + (i.toNat * 1 + 0) = o2 + i.toNat := by omega
          rw [ha] at hxa
          have hr := storeOne_run (P := P) (t := t) hyl h4 hsz hoff h6
          refine ⟨key _ _ hxa hr ?_ rfl, rfl⟩
          refine hm.put (n := n) (g := g) (by rw [hb]; trivial) (by rw [hs]; rfl) rfl rfl rfl (by simp [World.setCell]) (fun k hk hne => setCell_other k hne) ?_ trivial
          have hsz2 : (vs.setIfInBounds (o2 + i.toNat) (.int .u8 x)).size = vs.size := Array.size_setIfInBounds
          have hls : (List.set l i.toNat (x : (Ty.int .u8).T)).length = l.length := List.length_set
          refine .inr ⟨g, o2, c, _, e2, fz, hs.trans (congrArg (fun q => Value.slice (some ⟨g, o2, none⟩) q c) hls.symm), Nat.le_trans (Nat.le_of_eq hls) h2, Nat.le_trans (Nat.le_of_eq hls) h3, setCell_heap h4, ?_, by rw [hsz2]; exact h6, ex_set l vs o2 i.toNat x hoff hil' h7⟩
          rw [hsz2]
          exact Nat.le_trans (Nat.le_of_eq (congrArg (fun q => o2 + q * 1) hls)) h5
    · simp at h
  · simp at h
theorem good_pure {op : Op} {u : Value} {v : SV} (ho : o.op = op) (h : (execOp ρ { o with op := op }).run P w = .ok (.value u) w) (hv : VRel hp ν v u) (hm : Mem base G w0 w hp ν) : Good P base G w0 hp ν ρ o w v hp := by
  have : ({ o with op := op } : Oper) = o := by rw [← ho]
  rw [this] at h
  exact good_same h hv hm
theorem fieldOf_some {t ft : TypeId} {f off : Nat} (h : fieldOf P t f = some (off, ft)) : ∃ fs fd, P.underlying t = some (.struct fs) ∧ fs[f]? = some fd ∧ fd.offset = off ∧ fd.type = ft := by
  unfold fieldOf at h
  split at h
  · rename_i fs hu
    split at h
    · rename_i x hx
      simp only [Option.some.injEq, Prod.mk.injEq] at h
      exact ⟨fs, x, hu, by simpa using hx, h.1, h.2⟩
    · simp at h
  · simp at h
theorem fieldAt_run {t ft : TypeId} {f off n : Nat} {a : Addr} (hf : fieldOf P t f = some (off, ft)) (hs : szOf P ft = some (n + 1)) : (Instr.fieldAt t (.pointer (some a)) f).run P w = .ok (.pointer (some (a.add off))) w := by
  obtain ⟨fs, fd, hu, hfd, rfl, rfl⟩ := fieldOf_some hf
  obtain ⟨i, hi, hn⟩ := szOf_some hs
  simp [Instr.fieldAt, run_underlying hu, hfd, Instr.sureAddr, fieldPlace, sizeOf, typeInfo, hi, hn]
theorem indexAt_run {t el : TypeId} {m : Nat} {A : Addr} {L c : Nat} {k : IntKind} {j : Int} (hu : P.underlying t = some (.slice el)) (hs : szOf P el = some m) (h0 : 0 ≤ j) (h1 : j < (L : Int)) :
    (Instr.indexAt t (.slice (some A) L c) (.int k j)).run P w = .ok (.pointer (some (A.add (j.toNat * m)))) w := by
  obtain ⟨i, hi, hn⟩ := szOf_some hs
  simp [Instr.indexAt, asIntOf, run_underlying hu, sizeOf, typeInfo, hi, hn, h0, h1]
theorem part_run {ft : TypeId} {cs : List SC} {vs : Array Value} {off : Nat} {v : SV} (h : cellAt P ft cs off = some v) (hc : CsRel hp ν cs vs.toList) : ∃ u, (part ft vs off).run P w = .ok u w ∧ VRel hp ν v u := by
  unfold cellAt at h
  split at h
  · rename_i n h1 h2
    cases hb : Nat.ble (off + n) cs.length with
    | false => rw [hb] at h; simp at h
    | true =>
      rw [hb] at h
      simp only [cnd_true, Option.some.injEq] at h
      subst h
      obtain ⟨i, hi, hn⟩ := szOf_some h2
      refine ⟨.agg (vs.extract off (off + n)), ?_, ⟨_, rfl, ?_⟩⟩
      · simp [part, isAg_run h1, sizeOf, typeInfo, hi, hn]
      · have : (vs.extract off (off + n)).toList = (vs.toList.drop off).take n := by
          simp [List.extract_eq_take_drop]
        rw [this]
        exact (hc.drop off).take n
  · rename_i h1
    split at h
    · rename_i x hx
      simp only [Option.some.injEq] at h
      subst h
      obtain ⟨u, hu, hux⟩ := hc.get hx
      have hu' : vs[off]? = some u := by simpa using hu
      exact ⟨u, by simp [part, isAg_run h1, hu'], ⟨x, rfl, hux⟩⟩
    · simp at h
  · simp at h
/-! ### a row laid at once -/
theorem fill_row (ty : Ty) : ∀ (ps : List (Nat × SV)) (vs : List (Nat × Value)) (i : Nat) (xs : List ty.T) (cur : Array Value) (done : List Value),
    rowS ty i ps = some xs → vs.length = ps.length → (∀ (j q : Nat) (x : SV), ps[j]? = some (q, x) → ∃ v, vs[j]? = some (q, v) ∧ VRel hp ν x v) →
    cur.size = (i + ps.length) * ty.size → cur.toList.take (i * ty.size) = done → xs.length = ps.length ∧ ∃ cv, Instr.fill (fun i => some (i * ty.size, ty.size)) cur vs = some cv ∧ cv.toList = done ++ ty.flat xs
  | [], [], i, xs, cur, done, h, _, _, hs, hd => by
    simp only [rowS, Option.some.injEq] at h
    subst h
    refine ⟨rfl, cur, rfl, ?_⟩
    rw [← hd, List.take_of_length_le (by simp at hs ⊢; omega)]
    simp [Ty.flat]
  | (q, x) :: ps, (q', v) :: vs, i, xs, cur, done, h, hl, hr, hs, hd => by
    obtain ⟨v', hv', hx⟩ := hr 0 q x (by simp)
    simp only [List.getElem?_cons_zero, Option.some.injEq, Prod.mk.injEq] at hv'
    obtain ⟨hq, hvv⟩ := hv'
    subst hq hvv
    cases x with
    | any => simp [rowS] at h
    | tup xs => simp [rowS] at h
    | a g ys =>
      simp only [rowS] at h
      cases hb : Nat.beq i q' with
      | false => rw [hb] at h; simp at h
      | true =>
        rw [hb] at h
        have hiq := Nat.eq_of_beq_eq_true hb
        subst hiq
        simp only [cnd_true] at h
        split at h
        · rename_i x' hof
          split at h
          · rename_i xs' hxs
            simp only [Option.some.injEq] at h
            subst h
            have hy : CsRel hp ν ys v.cells.toList := ARel.cells hx
            obtain ⟨us, hus, hnil⟩ := Ty.of_rel (hp := hp) (ν := ν) ty hof hy
            have hus0 : us = [] := by
              cases us with
              | nil => rfl
              | cons _ _ => exact hnil.elim
            subst hus0
            rw [List.append_nil] at hus
            have hvl : v.cells.size = ty.size := by rw [← Array.length_toList, hus, Ty.cells_len]
            have hsz : i * ty.size + v.cells.size ≤ cur.size := by
              rw [hs, hvl, List.length_cons, ← Nat.add_assoc, Nat.add_mul, Nat.add_mul]; omega
            have hstep := fill_step v.cells (i * ty.size) cur hsz
            have hdone : (v.cells.zipIdx.foldl (fun cs p => cs.setIfInBounds (i * ty.size + p.2) p.1) cur).toList.take ((i + 1) * ty.size) = done ++ ty.cells x' := by
              rw [hstep, ← hus, ← hd, Nat.add_mul, Nat.one_mul]
              unfold splice
              have l1 : (cur.toList.take (i * ty.size)).length = i * ty.size := by simp; omega
              rw [List.take_append_of_le_length (by simp; omega), List.take_of_length_le (by simp; omega)]
            have hsize : (v.cells.zipIdx.foldl (fun cs p => cs.setIfInBounds (i * ty.size + p.2) p.1) cur).size = (i + 1 + ps.length) * ty.size := by
              rw [← Array.length_toList, hstep]
              unfold splice
              simp
              rw [List.length_cons] at hs
              have e : i + (ps.length + 1) = i + 1 + ps.length := by omega
              rw [e] at hs
              omega
            obtain ⟨hlen, cv, hcv, hfin⟩ := fill_row ty ps vs (i + 1) xs' _ (done ++ ty.cells x') hxs (by simpa using hl)
              (fun j q x hj => by
                obtain ⟨u, hu, hux⟩ := hr (j + 1) q x (by simpa using hj)
                exact ⟨u, by simpa using hu, hux⟩) hsize hdone
            refine ⟨by simp [hlen], cv, ?_, ?_⟩
            · rw [Instr.fill]
              simp only []
              rw [if_neg (by simp; omega)]
              exact hcv
            · rw [hfin]; simp [Ty.flat]
          · simp at h
        · simp at h
  | [], _ :: _, _, _, _, _, _, hl, _, _, _ => by simp at hl
  | _ :: _, [], _, _, _, _, _, hl, _, _, _ => by simp at hl
theorem fill_row_len (ty : Ty) : ∀ (ps : List (Nat × SV)) (i : Nat) (xs : List ty.T), rowS ty i ps = some xs → xs.length = ps.length
  | [], i, xs, h => by simp only [rowS, Option.some.injEq] at h; subst h; rfl
  | (q, x) :: ps, i, xs, h => by
    cases x with
    | any => simp [rowS] at h
    | tup xs => simp [rowS] at h
    | a g ys =>
      simp only [rowS] at h
      cases hb : Nat.beq i q with
      | false => rw [hb] at h; simp at h
      | true =>
        rw [hb] at h
        simp only [cnd_true] at h
        split at h
        · split at h
          · rename_i xs' hxs
            simp only [Option.some.injEq] at h
            subst h
            simp [fill_row_len ty ps (i + 1) xs' hxs]
          · simp at h
        · simp at h
theorem good_rowS {t el : TypeId} {len nm : Nat} {ps : Array (Nat × Operand)} {ty : Ty} {xs : List ty.T} {zg : Bool × List SC} (ho : o.op = .buildSlice t len ps) (hu : sliceOf P t = some el) (hty : elTy P el = some ty)
    (hr : rowS ty 0 (ps.toList.map fun p => (p.1, e p.2)) = some xs) (hz : zeroC P el = some zg) (hl : xs.length = len) (hle : len * ty.size ≤ 16777216) (hn : hp nm = .free)
    (he : ∀ x, VRel hp ν (e x) (ρ x)) (hm : Mem base G w0 w hp ν) : Good P base G w0 hp ν ρ o w (one (.sl nm)) (upd hp nm (.row ty xs el)) := by
  obtain ⟨g, cs⟩ := zg
  obtain ⟨iz, zv, hiz, hzv, _⟩ := zeroC_rel hz
  obtain ⟨i, hi, hsz⟩ := elTy_some hty
  rw [hiz] at hi
  injection hi with hi
  subst hi
  have hus := sliceOf_some hu
  have hrun : ∃ cv, (execOp ρ o).run P w = .ok (.value (.slice (some ⟨w.heap.size, 0, none⟩) len len)) (w.alloc (.cells cv el)) ∧ cv.toList = ty.flat xs := by
    obtain ⟨hlen, cv, hcv, hfin⟩ := fill_row (hp := hp) (ν := ν) ty (ps.toList.map fun p => (p.1, e p.2)) (ps.map fun (p : Nat × Operand) => (p.1, ρ p.2)).toList 0 xs
      ((Array.range (len * ty.size)).map (fun x => (if len * ty.size = 0 then #[] else zv.cells)[x % (if len * ty.size = 0 then #[] else zv.cells).size]!)) [] hr (by simp) (parts_get e ρ he ps)
      (by
        have h2 : (ps.toList.map fun p => (p.1, e p.2)).length = len := by
          have := fill_row_len ty _ 0 xs hr
          omega
        simp [h2]) (by simp)
    refine ⟨cv, ?_, by simpa using hfin⟩
    unfold execOp
    rw [ho]
    simp only [Instr.buildSlice, Sem.run_bind, run_underlying hus, Result.andThen_ok, sizeOf, typeInfo]
    by_cases h0 : len * ty.size = 0
    · simp only [h0, if_true] at hcv
      simp [hiz, hsz, h0, newRow, newObj, Sem.run]
      simp at hcv
      rw [hcv]
      simp [Sem.run]
    · simp only [h0, if_false, Array.toList_map] at hcv
      have hle' : ¬ 16777216 < len * ty.size := by omega
      simp [hiz, hsz, h0, zeroValue, typeInfo, hzv, newRow, newObj, Sem.run, hle']
      rw [hcv]
      simp [Sem.run]
  obtain ⟨cv, hrun, hcv⟩ := hrun
  subst hl
  have hlen0 : xs.length ≤ maxLen := by
    have := Ty.size_pos ty
    have : xs.length * 1 ≤ xs.length * ty.size := Nat.mul_le_mul_left _ this
    simp only [maxLen]; omega
  exact good_row hn hrun (Nat.le_refl _) hlen0 (by rw [← Array.length_toList, hcv, Ty.flat_len]) (by rw [hcv, List.take_of_length_le (by rw [Ty.flat_len]; omega)]) hm
end
end Go.Sx
