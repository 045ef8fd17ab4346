/- A symbolic executor of the model's code, run by the kernel, and that it is sound; plain lemmas. -/
import Derived.Test.YtkcfdkfdmglamaaSz0
import Derived.Laws.CopyRow
import Derived.Laws.Strings
import Derived.Laws.Small
import Derived.Laws.IdiomStrings
import Derived.Orders
/- Stores, addresses, rows that are laid at once. -/
set_option linter.unusedVariables false
set_option linter.unusedSimpArgs false
namespace Go.Sx
open Go.RowKit (wrap64)

theorem take_splice (C F vs : List Value) (k m : Nat) (hF : C.take m = F) (hm : F.length = m) (hk : k + vs.length ≤ m) : (splice C k vs).take m = splice F k vs := by
  have hlen : m ≤ C.length := by
    have := congrArg List.length hF
    simp at this; omega
  unfold splice
  have e1 : C.take k = F.take k := by rw [← hF, List.take_take]; congr 1; omega
  rw [List.take_append, List.take_append]
  have l1 : (C.take k).length = k := by simp; omega
  have l2 : (C.take k ++ vs).length = k + vs.length := by simp; omega
  rw [l1, l2]
  have e2 : (C.take k).take m = F.take k := by rw [List.take_of_length_le (by rw [l1]; omega), e1]
  have e3 : vs.take (m - k) = vs := List.take_of_length_le (by omega)
  have e4 : (C.drop (k + vs.length)).take (m - (k + vs.length)) = F.drop (k + vs.length) := by rw [← hF, List.drop_take]
  rw [e2, e3, e4]
theorem flat_set (ty : Ty) (l : List ty.T) (i : Nat) (h : i < l.length) (off : Nat) (vs : List Value) (x : ty.T) (hoff : off + vs.length ≤ ty.size) (hx : ty.cells x = splice (ty.cells l[i]) off vs) :
    ty.flat (l.set i x) = splice (ty.flat l) (i * ty.size + off) vs := by
  have h1 : l = l.take i ++ l[i] :: l.drop (i + 1) := by simp
  have h2 : l.set i x = l.take i ++ x :: l.drop (i + 1) := by rw [List.set_eq_take_append_cons_drop, if_pos h]
  have f1 : ty.flat l = ty.flat (l.take i) ++ (ty.cells l[i] ++ ty.flat (l.drop (i + 1))) := by
    exact (congrArg ty.flat h1).trans (by simp only [Ty.flat, List.flatMap_append, List.flatMap_cons])
  have f2 : ty.flat (l.set i x) = ty.flat (l.take i) ++ (ty.cells x ++ ty.flat (l.drop (i + 1))) := by
    rw [h2]; simp [Ty.flat]
  have la : (ty.flat (l.take i)).length = i * ty.size := by rw [Ty.flat_len, List.length_take, Nat.min_eq_left (by omega)]
  have lb : (ty.cells l[i]).length = ty.size := Ty.cells_len ty _
  rw [f2, f1, hx]
  unfold splice
  rw [← la, List.take_length_add_append, Nat.add_assoc, List.drop_length_add_append]
  have hA : off ≤ (ty.cells l[i]).length := by omega
  have hB : off + vs.length ≤ (ty.cells l[i]).length := by omega
  rw [List.take_append_of_le_length hA, List.drop_append_of_le_length hB]
  simp [List.append_assoc]
section
variable {P : Program} {base : Nat} {G : GS} {w0 w : World} {hp : Hp} {ν : Nat → Value} {ρ : Operand → Value} {e : Operand → SV} {o : Oper}
theorem storeVar_run {t tt : TypeId} {g off m : Nat} {cur : Array Value} {v : Value} (hg : w.heap[g]? = some (.cells cur tt (0, 0))) (hs : szOf P t = some m) (hl : v.cells.size = m) (hle : off + m ≤ cur.size) (h1 : ∀ u ∈ v.cells.toList, u.oneCell' = true) :
    (storeVar t ⟨g, off, none⟩ v).run P w = .ok () (w.setRow g (splice cur.toList off v.cells.toList).toArray) := by
  obtain ⟨i, hi, hn⟩ := szOf_some hs
  have := run_storeCells_at P g off tt v.cells.toList 0 cur w hg (by simp; omega) h1
  simp only [storeVar, sizeOf, typeInfo, Sem.run_bind]
  simp [hi, hn, hl]
  simpa [splice] using this
/-- One byte is written into a block of which no cell is frozen. -/
theorem storeOne_run {t : TypeId} {g off : Nat} {cur : Array Value} {tt : TypeId} {fz : Nat × Nat} {k : IntKind} {x : Int} {v : Value} (hv : v.cells.toList = [.int k x]) (hg : w.heap[g]? = some (.cells cur tt fz)) (hs : szOf P t = some 1) (hle : off < cur.size) (hfz : fz.2 ≤ fz.1 ∨ cur.size ≤ fz.1) :
    (storeVar t ⟨g, off, none⟩ v).run P w = .ok () (w.setCell ⟨g, off, none⟩ (.int k x)) := by
  obtain ⟨i, hi, hn⟩ := szOf_some hs
  have hc : w.cell? ⟨g, off, none⟩ = some cur[off] := by
    unfold World.cell?
    simp only [hg]
    simp [hle]
  have hf : w.frozen? ⟨g, off, none⟩ = false := by
    unfold World.frozen?
    simp only [hg]
    obtain ⟨lo, hi2⟩ := fz
    simp only [Bool.and_eq_false_iff, decide_eq_false_iff_not]
    simp only [] at hfz
    omega
  have hcells : v.cells = #[.int k x] := by rw [← Array.toArray_toList (xs := v.cells), hv]
  simp only [storeVar, sizeOf, typeInfo, Sem.run_bind]
  simp [hi, hn, hcells, storeCells, store, Addr.add]
  rw [Sem.run]
  · simp only [hc, hf]
    rfl
  · intro _ h; cases h
  · intro _ h; cases h
theorem setCell_heap {g off : Nat} {cur : Array Value} {tt : TypeId} {fz : Nat × Nat} {u : Value} (hg : w.heap[g]? = some (.cells cur tt fz)) : (w.setCell ⟨g, off, none⟩ u).heap[g]? = some (.cells (cur.setIfInBounds off u) tt fz) := by
  obtain ⟨lo, hi⟩ := fz
  unfold World.setCell
  simp only []
  rw [Array.getElem?_modify]
  simp [hg]
theorem setCell_other {g off : Nat} {u : Value} (k : Nat) (h : k ≠ g) : (w.setCell ⟨g, off, none⟩ u).heap[k]? = w.heap[k]? := by
  unfold World.setCell
  simp only []
  rw [Array.getElem?_modify, if_neg (fun e => h e.symm)]
theorem flat_u8 (l : List Int) : (Ty.int .u8).flat l = l.map (.int .u8) := by
  induction l with
  | nil => rfl
  | cons x l ih =>
    exact congrArg (Value.int .u8 x :: ·) ih
theorem ex_set (l : List Int) (vs : Array Value) (o2 i : Nat) (x : Int) (hoff : o2 + i < vs.size) (hil : i < l.length) (h7 : ∀ j u, ((Ty.int .u8).flat (l : List Int))[j]? = some u → vs[o2 + j]? = some u) :
    ∀ j u, ((Ty.int .u8).flat (List.set l i x : List Int))[j]? = some u → (vs.setIfInBounds (o2 + i) (.int .u8 x))[o2 + j]? = some u := by
  intro j u hu
  have e1 := flat_u8 (List.set l i x)
  have e2 := flat_u8 l
  have h7 := h7 j u
  rw [e1, List.getElem?_map] at hu
  rw [e2, List.getElem?_map] at h7
  by_cases hj : j = i
  · subst hj
    rw [List.getElem?_set_self hil] at hu
    simp only [Option.map_some, Option.some.injEq] at hu
    rw [Array.getElem?_setIfInBounds_self_of_lt hoff, hu]
  · rw [List.getElem?_set_ne (fun e => hj e.symm)] at hu
    rw [Array.getElem?_setIfInBounds_ne (by omega)]
    exact h7 hu
theorem good_store {t : TypeId} {x y : Operand} {av : Av} {cs : List SB} {v : SV} {hp' : Hp} (ho : o.op = .store t x y) (h : storeA P av t hp (e x) (e y) = some (cs, v, hp'))
    (he : ∀ x, VRel hp ν (e x) (ρ x)) (hm : Mem base G w0 w hp ν) : Good P base G w0 hp ν ρ o w v hp' ∧ cs = [] := by
  have hx := he x
  have hy := he y
  have key : ∀ a w', ρ x = .pointer (some a) → (storeVar t a (ρ y)).run P w = .ok () w' → Mem base G w0 w' hp' ν ∧ Ext hp ν hp' ν → v = .tup [] → Good P base G w0 hp ν ρ o w v hp' := by
    intro a w' hxa hr hme hv
    refine ⟨undef, w', ν, .inr ⟨?_, rfl⟩, ?_, hme.1, hme.2⟩
    · unfold execOp
      rw [ho]
      simp [Instr.storeAt, Instr.sureAddr, hxa, hr]
    · subst hv; exact ⟨#[], rfl, trivial⟩
  unfold storeA at h
  split at h
  · rename_i n off gy ys hex hey
    rw [hex] at hx
    rw [hey] at hy
    obtain ⟨z, hz, hcr⟩ := hx
    injection hz with hz _
    subst hz
    obtain ⟨hnf, g, hg, hxa⟩ := hcr
    have hyc : CsRel hp ν ys (ρ y).cells.toList := ARel.cells hy
    split at h
    · rename_i bs tt m hb hsz
      cases hc : (wrOk av n && (Nat.beq ys.length m && Nat.ble (off + m) bs.length)) with
      | false => rw [hc] at h; simp at h
      | true =>
        rw [hc] at h
        simp only [cnd_true, Option.some.injEq, Prod.mk.injEq] at h
        obtain ⟨rfl, rfl, rfl⟩ := h
        rw [Bool.and_eq_true, Bool.and_eq_true] at hc
        have c1 := Nat.eq_of_beq_eq_true hc.2.1
        have c2 := Nat.le_of_ble_eq_true hc.2.2
        have hent := hm.ent n
        rw [hb] at hent
        obtain ⟨g', vs, hg', hheap, hrel⟩ := hent
        rw [hg] at hg'
        simp only [Value.pointer.injEq, Option.some.injEq, Addr.mk.injEq, and_true] at hg'
        subst hg'
        have l1 := hyc.len
        have l2 := hrel.len
        simp at l1 l2
        have hr := storeVar_run (P := P) (t := t) (off := off) (v := ρ y) hheap hsz (by omega) (by omega) hyc.cells
        refine ⟨key _ _ hxa hr ?_ rfl, rfl⟩
        have hext : Ext hp ν (upd hp n (.box (spliceS bs off ys) tt)) ν := ⟨fun k hk => by
          by_cases hkn : k = n
          · subst hkn; rw [upd_same]; exact ⟨by simp, rfl⟩
          · rw [upd_other _ _ hkn]; exact ⟨hk, rfl⟩⟩
        refine hm.put (n := n) (g := g) (by rw [hb]; trivial) (by rw [hg]; rfl) rfl rfl rfl (by simp) (fun k hk hne => setRow_other w g k _ hne) ?_ trivial
        exact ⟨g, _, hg, setRow_heap w g vs _ tt _ hheap, by simpa using (splice_rel off hrel hyc).mono hext⟩
    · simp at h
  · rename_i n sz i off gy ys hex hey
    rw [hex] at hx
    rw [hey] at hy
    obtain ⟨z, hz, hcr⟩ := hx
    injection hz with hz _
    subst hz
    obtain ⟨hnf, A, L, c, hs, hxa, hi0, hil⟩ := hcr
    have hyc : CsRel hp ν ys (ρ y).cells.toList := ARel.cells hy
    split at h
    · rename_i ty l e' m hb hsz
      cases hc : (wrOk av n && Nat.beq sz ty.size && (Nat.beq ys.length m && Nat.ble (off + m) ty.size)) with
      | false => rw [hc] at h; simp at h
      | true =>
        rw [hc] at h
        simp only [cnd_true] at h
        split at h
        · rename_i x' hof
          simp only [Option.some.injEq, Prod.mk.injEq] at h
          obtain ⟨rfl, rfl, rfl⟩ := h
          simp only [Bool.and_eq_true] at hc
          have c0 := Nat.eq_of_beq_eq_true hc.1.2
          have c1 := Nat.eq_of_beq_eq_true hc.2.1
          have c2 := Nat.le_of_ble_eq_true hc.2.2
          have hent := hm.ent n
          rw [hb] at hent
          have hown : w.ownsRow 0 e' ty.size (ν n) l.length (ty.flat l) := hent
          have hin := (row_reads (en := hp n) (.inl hb) (hm.ent n) hs).1
          subst hin
          have hil' : i.toNat < l.length := by omega
          rcases hown.2 with ⟨h1, h2⟩ | ⟨g, cap, cur, h1, hbg, hheap, hnc, hcm, hcs, htake⟩
          · rw [hs] at h1; simp at h1
          · rw [hs] at h1
            simp only [Value.slice.injEq, Option.some.injEq, true_and] at h1
            obtain ⟨rfl, rfl⟩ := h1
            subst c0
            have l1 := hyc.len
            simp at l1
            have hgx := get_at ty l i hi0 hil
            rw [hgx] at hof
            obtain ⟨us, hus, hnil⟩ := Ty.of_rel (hp := hp) (ν := ν) ty hof (splice_rel off (Ty.sc_rel ty l[i.toNat]) hyc)
            have hus0 : us = [] := by
              cases us with
              | nil => rfl
              | cons _ _ => exact hnil.elim
            subst hus0
            rw [List.append_nil] at hus
            have hmul : (i.toNat + 1) * ty.size ≤ l.length * ty.size := Nat.mul_le_mul_right _ (by omega)
            have hmul2 : l.length * ty.size ≤ c * ty.size := Nat.mul_le_mul_right _ hnc
            rw [Nat.add_mul, Nat.one_mul] at hmul
            have hbound : i.toNat * ty.size + off + m ≤ cur.size := by rw [hcs]; omega
            have hr := storeVar_run (P := P) (t := t) (off := i.toNat * ty.size + off) (v := ρ y) hheap hsz (by omega) hbound hyc.cells
            rw [Addr.add_mid, Nat.zero_add] at hxa
            refine ⟨key _ _ hxa hr ?_ rfl, rfl⟩
            refine hm.put (n := n) (g := g) (by rw [hb]; trivial) (by rw [hs]; rfl) rfl rfl rfl (by simp) (fun k hk hne => setRow_other w g k _ hne) ?_ trivial
            have hfl := flat_set ty l i.toNat hil' off (ρ y).cells.toList x' (by simp; omega) hus.symm
            refine ⟨by rw [Ty.flat_len], .inr ⟨g, c, _, by rw [hs]; simp, hbg, setRow_heap w g cur _ e' _ hheap, by simpa using hnc, hcm, ?_, ?_⟩⟩
            · simp [splice]; omega
            · rw [hfl]
              simp only [List.length_set]
              exact take_splice _ _ _ _ _ htake (by rw [Ty.flat_len]) (by simp; omega)
        · simp at h
    · rename_i ty l e' m hb hsz
      split at h
      case h_2 => simp at h
      rename_i l x
      cases hc : (wrOk av n && (Nat.beq sz 1 && (Nat.beq m 1 && Nat.beq off 0))) with
      | false => rw [hc] at h; simp at h
      | true =>
        rw [hc] at h
        simp only [cnd_true, Option.some.injEq, Prod.mk.injEq] at h
        obtain ⟨rfl, rfl, rfl⟩ := h
        simp only [Bool.and_eq_true] at hc
        have c0 := Nat.eq_of_beq_eq_true hc.2.1
        have c1 := Nat.eq_of_beq_eq_true hc.2.2.1
        have c2 := Nat.eq_of_beq_eq_true hc.2.2.2
        subst c0 c1 c2
        have hent := hm.ent n
        rw [hb] at hent
        rcases hent with ⟨h1, _⟩ | ⟨g, o2, c', vs, e2, fz, h1, h2, h3, h4, h5, h6, h7⟩
        · rw [hs] at h1; simp at h1
        · rw [hs] at h1
          simp only [Value.slice.injEq, Option.some.injEq] at h1
          obtain ⟨rfl, rfl, rfl⟩ := h1
          have hil' : i.toNat < l.length := by omega
          have h5 : o2 + l.length * 1 ≤ vs.size := h5
          have hyl : (ρ y).cells.toList = [.int .u8 x] := by
            generalize (ρ y).cells.toList = q at hyc
            match q, hyc with
            | [v], hyc =>
              have h8 : v = .int .u8 x := hyc.1
              rw [h8]
            | [], hyc => exact hyc.elim
            | _ :: _ :: _, hyc => exact hyc.2.elim
          have hoff : o2 + i.toNat < vs.size := by omega
          rw [Addr.add_mid] at hxa
          have ha : o2 + (i.toNat * 1 + 0) = o2 + i.toNat := by omega
          rw [ha] at hxa
          have hr := storeOne_run (P := P) (t := t) hyl h4 hsz hoff h6
          refine ⟨key _ _ hxa hr ?_ rfl, rfl⟩
          refine hm.put (n := n) (g := g) (by rw [hb]; trivial) (by rw [hs]; rfl) rfl rfl rfl (by simp [World.setCell]) (fun k hk hne => setCell_other k hne) ?_ trivial
          have hsz2 : (vs.setIfInBounds (o2 + i.toNat) (.int .u8 x)).size = vs.size := Array.size_setIfInBounds
          have hls : (List.set l i.toNat (x : (Ty.int .u8).T)).length = l.length := List.length_set
          refine .inr ⟨g, o2, c, _, e2, fz, hs.trans (congrArg (fun q => Value.slice (some ⟨g, o2, none⟩) q c) hls.symm), Nat.le_trans (Nat.le_of_eq hls) h2, Nat.le_trans (Nat.le_of_eq hls) h3, setCell_heap h4, ?_, by rw [hsz2]; exact h6, ex_set l vs o2 i.toNat x hoff hil' h7⟩
          rw [hsz2]
          exact Nat.le_trans (Nat.le_of_eq (congrArg (fun q => o2 + q * 1) hls)) h5
    · rename_i gg nt l e' m hb hsz
      cases hc : (wrOk av n && (Nat.beq sz nt.size && Nat.beq ys.length m)) with
      | false => rw [hc] at h; simp at h
      | true =>
        rw [hc] at h
        simp only [cnd_true] at h
        split at h
        case h_2 => simp at h
        rename_i x' hp1 hof
        simp only [Option.some.injEq, Prod.mk.injEq] at h
        obtain ⟨rfl, rfl, rfl⟩ := h
        simp only [Bool.and_eq_true] at hc
        have c0 := Nat.eq_of_beq_eq_true hc.2.1
        have c1 := Nat.eq_of_beq_eq_true hc.2.2
        subst c0
        obtain ⟨hm1, hx1, hk1, hn1⟩ := NT.put_rel (ok := wrOk av) nt hof hyc hm
        have hn1' : hp1 n = .nrow gg nt l e' := by
          rcases hk1 n with q | ⟨⟨_, _, _, q⟩, _⟩
          · rw [q]; exact hb
          · rw [hb] at q; cases q
        obtain ⟨B, hB⟩ := hm.nest
        obtain ⟨B', hB', hsub, hput0⟩ := hn1 B hB
        have hrel := hB'.rel n
        rw [hn1'] at hrel
        obtain ⟨fl, hown, hfl, _⟩ := hrel
        rcases hown.2 with ⟨h1, h2⟩ | ⟨g, cap, cur, h1, hbg, hheap, hnc, hcm, hcs, htake⟩
        · rw [hs] at h1; simp at h1
        · rw [hs] at h1
          simp only [Value.slice.injEq, Option.some.injEq] at h1
          obtain ⟨rfl, rfl, rfl⟩ := h1
          have hil' : i.toNat < l.length := by omega
          obtain ⟨ps, u0, rs, e1, e2, e3, e4⟩ := NFlat.at nt l fl i.toNat hil' hfl
          rw [nget_at nt l i hi0 hil] at hput0
          obtain ⟨hfit, hcells⟩ := hput0 u0 e3
          generalize hvv : (ρ y).cells.toList = vv at hfit hcells
          have lu := NCells.len nt x' _ hcells
          have lu0 := NCells.len nt _ u0 e3
          have hcl : (ρ y).cells.size = vv.length := by rw [← hvv, Array.length_toList]
          rw [lu0] at hfit
          have hmul : (i.toNat + 1) * nt.size ≤ l.length * nt.size := Nat.mul_le_mul_right _ (by omega)
          have hmul2 : l.length * nt.size ≤ c * nt.size := Nat.mul_le_mul_right _ hnc
          rw [Nat.add_mul, Nat.one_mul] at hmul
          have hyl := hyc.len
          rw [hvv] at hyl
          have hr := storeVar_run (P := P) (t := t) (off := i.toNat * nt.size + off) (v := ρ y) hheap hsz (by omega) (by rw [hcs]; omega) hyc.cells
          rw [Addr.add_mid, Nat.zero_add] at hxa
          refine ⟨key _ _ hxa hr ?_ rfl, rfl⟩
          have hfl' : splice fl (i.toNat * nt.size + off) (ρ y).cells.toList = ps ++ ((u0.take off ++ (vv ++ u0.drop (off + vv.length))) ++ rs) := by
            rw [hvv, e1]
            unfold splice
            rw [← e2, List.take_append, List.take_of_length_le (by omega), Nat.add_sub_cancel_left, List.take_append_of_le_length (by omega), List.drop_append, List.drop_eq_nil_of_le (by omega), List.nil_append, show ps.length + off + vv.length - ps.length = off + vv.length by omega, List.drop_append_of_le_length (by omega)]
            simp
          have hflen : fl.length = l.length * nt.size := NFlat.len nt l fl hfl
          have hown2 : (w.setRow g (splice cur.toList (i.toNat * nt.size + off) (ρ y).cells.toList).toArray).ownsRow 0 e' nt.size (ν n) (l.set i.toNat x').length (ps ++ ((u0.take off ++ (vv ++ u0.drop (off + vv.length))) ++ rs)) := by
            refine ⟨?_, .inr ⟨g, c, _, by rw [hs]; simp, hbg, setRow_heap w g cur _ e' _ hheap, by simpa using hnc, hcm, ?_, ?_⟩⟩
            · rw [← hfl', List.length_set]
              unfold splice
              simp
              omega
            · simp [splice]; omega
            · rw [← hfl']
              simp only [List.length_set]
              exact take_splice _ _ _ _ _ htake hflen (by simp; omega)
          have hput := hm1.putN (n := n) (g := g) (w' := w.setRow g (splice cur.toList (i.toNat * nt.size + off) (ρ y).cells.toList).toArray) (e := .nrow false nt (l.set i.toNat x') e') (by rw [hn1']; trivial) (by rw [hs]; rfl) rfl rfl rfl (by simp) (fun k hk hne => setRow_other w g k _ hne) ⟨_, hown2⟩ trivial
            ⟨B', hB', fun hBf => ⟨_, hown2, (e4 x' _ hcells).frame (fun b hb => ⟨hb, hBf b hb⟩) nt _ _, fun q => by cases q⟩⟩
          exact ⟨hput.1, hx1.trans hput.2⟩
    · simp at h
  · simp at h
theorem good_pure {op : Op} {u : Value} {v : SV} (ho : o.op = op) (h : (execOp ρ { o with op := op }).run P w = .ok (.value u) w) (hv : VRel hp ν v u) (hm : Mem base G w0 w hp ν) : Good P base G w0 hp ν ρ o w v hp := by
  have : ({ o with op := op } : Oper) = o := by rw [← ho]
  rw [this] at h
  exact good_same h hv hm
theorem fieldOf_some {t ft : TypeId} {f off : Nat} (h : fieldOf P t f = some (off, ft)) : ∃ fs fd, P.underlying t = some (.struct fs) ∧ fs[f]? = some fd ∧ fd.offset = off ∧ fd.type = ft := by
  unfold fieldOf at h
  split at h
  · rename_i fs hu
    split at h
    · rename_i x hx
      simp only [Option.some.injEq, Prod.mk.injEq] at h
      exact ⟨fs, x, hu, by simpa using hx, h.1, h.2⟩
    · simp at h
  · simp at h
theorem fieldAt_run {t ft : TypeId} {f off n : Nat} {a : Addr} (hf : fieldOf P t f = some (off, ft)) (hs : szOf P ft = some (n + 1)) : (Instr.fieldAt t (.pointer (some a)) f).run P w = .ok (.pointer (some (a.add off))) w := by
  obtain ⟨fs, fd, hu, hfd, rfl, rfl⟩ := fieldOf_some hf
  obtain ⟨i, hi, hn⟩ := szOf_some hs
  simp [Instr.fieldAt, run_underlying hu, hfd, Instr.sureAddr, fieldPlace, sizeOf, typeInfo, hi, hn]
theorem indexAt_run {t el : TypeId} {m : Nat} {A : Addr} {L c : Nat} {k : IntKind} {j : Int} (hu : P.underlying t = some (.slice el)) (hs : szOf P el = some m) (h0 : 0 ≤ j) (h1 : j < (L : Int)) :
    (Instr.indexAt t (.slice (some A) L c) (.int k j)).run P w = .ok (.pointer (some (A.add (j.toNat * m)))) w := by
  obtain ⟨i, hi, hn⟩ := szOf_some hs
  simp [Instr.indexAt, asIntOf, run_underlying hu, sizeOf, typeInfo, hi, hn, h0, h1]
theorem part_run {ft : TypeId} {cs : List SC} {vs : Array Value} {off : Nat} {v : SV} (h : cellAt P ft cs off = some v) (hc : CsRel hp ν cs vs.toList) : ∃ u, (part ft vs off).run P w = .ok u w ∧ VRel hp ν v u := by
  unfold cellAt at h
  split at h
  · rename_i n h1 h2
    cases hb : Nat.ble (off + n) cs.length with
    | false => rw [hb] at h; simp at h
    | true =>
      rw [hb] at h
      simp only [cnd_true, Option.some.injEq] at h
      subst h
      obtain ⟨i, hi, hn⟩ := szOf_some h2
      refine ⟨.agg (vs.extract off (off + n)), ?_, ⟨_, rfl, ?_⟩⟩
      · simp [part, isAg_run h1, sizeOf, typeInfo, hi, hn]
      · have : (vs.extract off (off + n)).toList = (vs.toList.drop off).take n := by
          simp [List.extract_eq_take_drop]
        rw [this]
        exact (hc.drop off).take n
  · rename_i h1
    split at h
    · rename_i x hx
      simp only [Option.some.injEq] at h
      subst h
      obtain ⟨u, hu, hux⟩ := hc.get hx
      have hu' : vs[off]? = some u := by simpa using hu
      exact ⟨u, by simp [part, isAg_run h1, hu'], ⟨x, rfl, hux⟩⟩
    · simp at h
  · simp at h
/-! ### a row laid at once -/
theorem fill_row (ty : Ty) : ∀ (ps : List (Nat × SV)) (vs : List (Nat × Value)) (i : Nat) (xs : List ty.T) (cur : Array Value) (done : List Value),
    rowS ty i ps = some xs → vs.length = ps.length → (∀ (j q : Nat) (x : SV), ps[j]? = some (q, x) → ∃ v, vs[j]? = some (q, v) ∧ VRel hp ν x v) →
    cur.size = (i + ps.length) * ty.size → cur.toList.take (i * ty.size) = done → xs.length = ps.length ∧ ∃ cv, Instr.fill (fun i => some (i * ty.size, ty.size)) cur vs = some cv ∧ cv.toList = done ++ ty.flat xs
  | [], [], i, xs, cur, done, h, _, _, hs, hd => by
    simp only [rowS, Option.some.injEq] at h
    subst h
    refine ⟨rfl, cur, rfl, ?_⟩
    rw [← hd, List.take_of_length_le (by simp at hs ⊢; omega)]
    simp [Ty.flat]
  | (q, x) :: ps, (q', v) :: vs, i, xs, cur, done, h, hl, hr, hs, hd => by
    obtain ⟨v', hv', hx⟩ := hr 0 q x (by simp)
    simp only [List.getElem?_cons_zero, Option.some.injEq, Prod.mk.injEq] at hv'
    obtain ⟨hq, hvv⟩ := hv'
    subst hq hvv
    cases x with
    | any => simp [rowS] at h
    | tup xs => simp [rowS] at h
    | a g ys =>
      simp only [rowS] at h
      cases hb : Nat.beq i q' with
      | false => rw [hb] at h; simp at h
      | true =>
        rw [hb] at h
        have hiq := Nat.eq_of_beq_eq_true hb
        subst hiq
        simp only [cnd_true] at h
        split at h
        · rename_i x' hof
          split at h
          · rename_i xs' hxs
            simp only [Option.some.injEq] at h
            subst h
            have hy : CsRel hp ν ys v.cells.toList := ARel.cells hx
            obtain ⟨us, hus, hnil⟩ := Ty.of_rel (hp := hp) (ν := ν) ty hof hy
            have hus0 : us = [] := by
              cases us with
              | nil => rfl
              | cons _ _ => exact hnil.elim
            subst hus0
            rw [List.append_nil] at hus
            have hvl : v.cells.size = ty.size := by rw [← Array.length_toList, hus, Ty.cells_len]
            have hsz : i * ty.size + v.cells.size ≤ cur.size := by
              rw [hs, hvl, List.length_cons, ← Nat.add_assoc, Nat.add_mul, Nat.add_mul]; omega
            have hstep := fill_step v.cells (i * ty.size) cur hsz
            have hdone : (v.cells.zipIdx.foldl (fun cs p => cs.setIfInBounds (i * ty.size + p.2) p.1) cur).toList.take ((i + 1) * ty.size) = done ++ ty.cells x' := by
              rw [hstep, ← hus, ← hd, Nat.add_mul, Nat.one_mul]
              unfold splice
              have l1 : (cur.toList.take (i * ty.size)).length = i * ty.size := by simp; omega
              rw [List.take_append_of_le_length (by simp; omega), List.take_of_length_le (by simp; omega)]
            have hsize : (v.cells.zipIdx.foldl (fun cs p => cs.setIfInBounds (i * ty.size + p.2) p.1) cur).size = (i + 1 + ps.length) * ty.size := by
              rw [← Array.length_toList, hstep]
              unfold splice
              simp
              rw [List.length_cons] at hs
              have e : i + (ps.length + 1) = i + 1 + ps.length := by omega
              rw [e] at hs
              omega
            obtain ⟨hlen, cv, hcv, hfin⟩ := fill_row ty ps vs (i + 1) xs' _ (done ++ ty.cells x') hxs (by simpa using hl)
              (fun j q x hj => by
                obtain ⟨u, hu, hux⟩ := hr (j + 1) q x (by simpa using hj)
                exact ⟨u, by simpa using hu, hux⟩) hsize hdone
            refine ⟨by simp [hlen], cv, ?_, ?_⟩
            · rw [Instr.fill]
              simp only []
              rw [if_neg (by simp; omega)]
              exact hcv
            · rw [hfin]; simp [Ty.flat]
          · simp at h
        · simp at h
  | [], _ :: _, _, _, _, _, _, hl, _, _, _ => by simp at hl
  | _ :: _, [], _, _, _, _, _, hl, _, _, _ => by simp at hl
theorem fill_row_len (ty : Ty) : ∀ (ps : List (Nat × SV)) (i : Nat) (xs : List ty.T), rowS ty i ps = some xs → xs.length = ps.length
  | [], i, xs, h => by simp only [rowS, Option.some.injEq] at h; subst h; rfl
  | (q, x) :: ps, i, xs, h => by
    cases x with
    | any => simp [rowS] at h
    | tup xs => simp [rowS] at h
    | a g ys =>
      simp only [rowS] at h
      cases hb : Nat.beq i q with
      | false => rw [hb] at h; simp at h
      | true =>
        rw [hb] at h
        simp only [cnd_true] at h
        split at h
        · split at h
          · rename_i xs' hxs
            simp only [Option.some.injEq] at h
            subst h
            simp [fill_row_len ty ps (i + 1) xs' hxs]
          · simp at h
        · simp at h
theorem good_rowS {t el : TypeId} {len nm : Nat} {ps : Array (Nat × Operand)} {ty : Ty} {xs : List ty.T} {zg : Bool × List SC} (ho : o.op = .buildSlice t len ps) (hu : sliceOf P t = some el) (hty : elTy P el = some ty)
    (hr : rowS ty 0 (ps.toList.map fun p => (p.1, e p.2)) = some xs) (hz : zeroC P el = some zg) (hl : xs.length = len) (hle : len * ty.size ≤ 16777216) (hn : hp nm = .free)
    (he : ∀ x, VRel hp ν (e x) (ρ x)) (hm : Mem base G w0 w hp ν) : Good P base G w0 hp ν ρ o w (one (.sl nm)) (upd hp nm (.row ty xs el)) := by
  obtain ⟨g, cs⟩ := zg
  obtain ⟨iz, zv, hiz, hzv, _⟩ := zeroC_rel hz
  obtain ⟨i, hi, hsz⟩ := elTy_some hty
  rw [hiz] at hi
  injection hi with hi
  subst hi
  have hus := sliceOf_some hu
  have hrun : ∃ cv, (execOp ρ o).run P w = .ok (.value (.slice (some ⟨w.heap.size, 0, none⟩) len len)) (w.alloc (.cells cv el)) ∧ cv.toList = ty.flat xs := by
    obtain ⟨hlen, cv, hcv, hfin⟩ := fill_row (hp := hp) (ν := ν) ty (ps.toList.map fun p => (p.1, e p.2)) (ps.map fun (p : Nat × Operand) => (p.1, ρ p.2)).toList 0 xs
      ((Array.range (len * ty.size)).map (fun x => (if len * ty.size = 0 then #[] else zv.cells)[x % (if len * ty.size = 0 then #[] else zv.cells).size]!)) [] hr (by simp) (parts_get e ρ he ps)
      (by
        have h2 : (ps.toList.map fun p => (p.1, e p.2)).length = len := by
          have := fill_row_len ty _ 0 xs hr
          omega
        simp [h2]) (by simp)
    refine ⟨cv, ?_, by simpa using hfin⟩
    unfold execOp
    rw [ho]
    simp only [Instr.buildSlice, Sem.run_bind, run_underlying hus, Result.andThen_ok, sizeOf, typeInfo]
    by_cases h0 : len * ty.size = 0
    · simp only [h0, if_true] at hcv
      simp [hiz, hsz, h0, newRow, newObj, Sem.run]
      simp at hcv
      rw [hcv]
      simp [Sem.run]
    · simp only [h0, if_false, Array.toList_map] at hcv
      have hle' : ¬ 16777216 < len * ty.size := by omega
      simp [hiz, hsz, h0, zeroValue, typeInfo, hzv, newRow, newObj, Sem.run, hle']
      rw [hcv]
      simp [Sem.run]
  obtain ⟨cv, hrun, hcv⟩ := hrun
  subst hl
  have hlen0 : xs.length ≤ maxLen := by
    have := Ty.size_pos ty
    have : xs.length * 1 ≤ xs.length * ty.size := Nat.mul_le_mul_left _ this
    simp only [maxLen]; omega
  exact good_row hn hrun (Nat.le_refl _) hlen0 (by rw [← Array.length_toList, hcv, Ty.flat_len]) (by rw [hcv, List.take_of_length_le (by rw [Ty.flat_len]; omega)]) hm
/-! ### elements that hold slices, laid at once -/
theorem fill_rowN (sz : Nat) : ∀ (ps : List (Nat × SV)) (vs : List (Nat × Value)) (i : Nat) (xs : List SC) (cur : Array Value) (done : List Value),
    rowN sz i ps = some xs → vs.length = ps.length → (∀ (j q : Nat) (x : SV), ps[j]? = some (q, x) → ∃ v, vs[j]? = some (q, v) ∧ VRel hp ν x v) →
    cur.size = (i + ps.length) * sz → cur.toList.take (i * sz) = done → ∃ cv fl, Instr.fill (fun i => some (i * sz, sz)) cur vs = some cv ∧ cv.toList = done ++ fl ∧ CsRel hp ν xs fl ∧ fl.length = ps.length * sz
  | [], [], i, xs, cur, done, h, _, _, hs, hd => by
    simp only [rowN, Option.some.injEq] at h
    subst h
    refine ⟨cur, [], rfl, ?_, trivial, by simp⟩
    rw [← hd, List.take_of_length_le (by simp at hs ⊢; omega)]
    simp
  | (q, x) :: ps, (q', v) :: vs, i, xs, cur, done, h, hl, hr, hs, hd => by
    obtain ⟨v', hv', hx⟩ := hr 0 q x (by simp)
    simp only [List.getElem?_cons_zero, Option.some.injEq, Prod.mk.injEq] at hv'
    obtain ⟨hq, hvv⟩ := hv'
    subst hq hvv
    cases x with
    | any => simp [rowN] at h
    | tup xs => simp [rowN] at h
    | a g ys =>
      simp only [rowN] at h
      cases hb : (Nat.beq i q' && Nat.beq ys.length sz) with
      | false => rw [hb] at h; simp at h
      | true =>
        rw [hb] at h
        rw [Bool.and_eq_true] at hb
        have hiq := Nat.eq_of_beq_eq_true hb.1
        have hyl := Nat.eq_of_beq_eq_true hb.2
        subst hiq
        simp only [cnd_true] at h
        split at h
        · rename_i xs' hxs
          simp only [Option.some.injEq] at h
          subst h
          have hy : CsRel hp ν ys v.cells.toList := ARel.cells hx
          have hvl : v.cells.size = sz := by rw [← Array.length_toList, ← hy.len, hyl]
          have hsz : i * sz + v.cells.size ≤ cur.size := by
            rw [hs, hvl, List.length_cons, ← Nat.add_assoc, Nat.add_mul, Nat.add_mul]; omega
          have hstep := fill_step v.cells (i * sz) cur hsz
          have hdone : (v.cells.zipIdx.foldl (fun cs p => cs.setIfInBounds (i * sz + p.2) p.1) cur).toList.take ((i + 1) * sz) = done ++ v.cells.toList := by
            rw [hstep, ← hd, Nat.add_mul, Nat.one_mul]
            unfold splice
            have l1 : (cur.toList.take (i * sz)).length = i * sz := by simp; omega
            rw [List.take_append_of_le_length (by simp; omega), List.take_of_length_le (by simp; omega)]
          have hsize : (v.cells.zipIdx.foldl (fun cs p => cs.setIfInBounds (i * sz + p.2) p.1) cur).size = (i + 1 + ps.length) * sz := by
            rw [← Array.length_toList, hstep]
            unfold splice
            simp
            rw [List.length_cons] at hs
            have e : i + (ps.length + 1) = i + 1 + ps.length := by omega
            rw [e] at hs
            omega
          obtain ⟨cv, fl, hcv, hfin, hrel, hfl⟩ := fill_rowN sz ps vs (i + 1) xs' _ (done ++ v.cells.toList) hxs (by simpa using hl)
            (fun j q x hj => by
              obtain ⟨u, hu, hux⟩ := hr (j + 1) q x (by simpa using hj)
              exact ⟨u, by simpa using hu, hux⟩) hsize hdone
          refine ⟨cv, v.cells.toList ++ fl, ?_, by rw [hfin, List.append_assoc], hy.append hrel, ?_⟩
          · rw [Instr.fill]
            simp only []
            rw [if_neg (by simp; omega)]
            exact hcv
          · rw [List.length_append, hfl, Array.length_toList, hvl, List.length_cons, Nat.add_mul]; omega
        · simp at h
  | [], _ :: _, _, _, _, _, _, hl, _, _, _ => by simp at hl
  | _ :: _, [], _, _, _, _, _, hl, _, _, _ => by simp at hl
theorem rowN_run {t el : TypeId} {len : Nat} {ps : Array (Nat × Operand)} {nt : NT} {xs : List SC} {zg : Bool × List SC} (ho : o.op = .buildSlice t len ps) (hu : sliceOf P t = some el) (hty : elNT P el = some nt)
    (hr : rowN nt.size 0 (ps.toList.map fun p => (p.1, e p.2)) = some xs) (hz : zeroC P el = some zg) (hl : ps.size = len) (hle : len * nt.size ≤ 16777216)
    (he : ∀ x, VRel hp ν (e x) (ρ x)) : ∃ cv, (execOp ρ o).run P w = .ok (.value (.slice (some ⟨w.heap.size, 0, none⟩) len len)) (w.alloc (.cells cv el)) ∧ CsRel hp ν xs cv.toList ∧ cv.size = len * nt.size := by
  obtain ⟨g, cs⟩ := zg
  obtain ⟨iz, zv, hiz, hzv, _⟩ := zeroC_rel hz
  obtain ⟨i, hi, hsz⟩ := elNT_some hty
  rw [hiz] at hi
  injection hi with hi
  subst hi
  have hus := sliceOf_some hu
  obtain ⟨cv, fl, hcv, hfin, hrel, hfl⟩ := fill_rowN (hp := hp) (ν := ν) nt.size (ps.toList.map fun p => (p.1, e p.2)) (ps.map fun (p : Nat × Operand) => (p.1, ρ p.2)).toList 0 xs
    ((Array.range (len * nt.size)).map (fun x => (if len * nt.size = 0 then #[] else zv.cells)[x % (if len * nt.size = 0 then #[] else zv.cells).size]!)) [] hr (by simp) (parts_get e ρ he ps)
    (by simp [hl]) (by simp)
  rw [List.nil_append] at hfin
  refine ⟨cv, ?_, by rw [hfin]; exact hrel, by rw [← Array.length_toList, hfin, hfl]; simp [hl]⟩
  unfold execOp
  rw [ho]
  simp only [Instr.buildSlice, Sem.run_bind, run_underlying hus, Result.andThen_ok, sizeOf, typeInfo]
  by_cases h0 : len * nt.size = 0
  · simp only [h0, if_true] at hcv
    simp [hiz, hsz, h0, newRow, newObj, Sem.run]
    simp at hcv
    rw [hcv]
    simp [Sem.run]
  · simp only [h0, if_false, Array.toList_map] at hcv
    have hle' : ¬ 16777216 < len * nt.size := by omega
    simp [hiz, hsz, h0, zeroValue, typeInfo, hzv, newRow, newObj, Sem.run, hle']
    rw [hcv]
    simp [Sem.run]
theorem rowN_own {cv : Array Value} {el : TypeId} {nt : NT} {len : Nat} (hcs : cv.size = len * nt.size) (hle : len * nt.size ≤ 16777216) : (w.alloc (.cells cv el)).ownsRow 0 el nt.size (.slice (some ⟨w.heap.size, 0, none⟩) len len) len cv.toList := by
  have hlen0 : len ≤ maxLen := by
    have := NT.size_pos nt
    have : len * 1 ≤ len * nt.size := Nat.mul_le_mul_left _ this
    simp only [maxLen]; omega
  refine ⟨by rw [Array.length_toList, hcs], .inr ⟨w.heap.size, len, cv, rfl, Nat.zero_le _, heap_alloc_new _ _, Nat.le_refl _, hlen0, hcs, ?_⟩⟩
  rw [List.take_of_length_le (by rw [Array.length_toList, hcs]; exact Nat.le_refl _)]
theorem good_rowN {t el : TypeId} {len nm : Nat} {ps : Array (Nat × Operand)} {nt : NT} {xs : List SC} {zg : Bool × List SC} (ho : o.op = .buildSlice t len ps) (hu : sliceOf P t = some el) (hty : elNT P el = some nt)
    (hr : rowN nt.size 0 (ps.toList.map fun p => (p.1, e p.2)) = some xs) (hz : zeroC P el = some zg) (hl : ps.size = len) (hle : len * nt.size ≤ 16777216) (hn : hp nm = .free)
    (he : ∀ x, VRel hp ν (e x) (ρ x)) (hm : Mem base G w0 w hp ν) : Good P base G w0 hp ν ρ o w (one (.sl nm)) (upd hp nm (.pend nt xs len el)) := by
  obtain ⟨cv, hrun, hrel, hcs⟩ := rowN_run (w := w) ho hu hty hr hz hl hle he
  have hext := Ext.new (ν := ν) hn (.pend nt xs len el) (.slice (some ⟨w.heap.size, 0, none⟩) len len)
  have hmem := hm.new (w' := w.alloc (.cells cv el)) hn (e := .pend nt xs len el) (v := .slice (some ⟨w.heap.size, 0, none⟩) len len) rfl rfl rfl (by simp) (fun k hk => heap_alloc_old _ _ _ hk)
    (fun g hg => by simp [blk] at hg; omega) ⟨_, rowN_own hcs hle, hrel.mono hext⟩ (by simp)
  refine ⟨_, _, _, .inl hrun, ?_, hmem.1, hmem.2⟩
  exact ⟨_, rfl, by rw [upd_same]; simp, by rw [upd_same], _, _, _, rfl⟩
theorem good_rowN0 {t el : TypeId} {len nm : Nat} {ps : Array (Nat × Operand)} {nt : NT} {zg : Bool × List SC} (ho : o.op = .buildSlice t len ps) (hu : sliceOf P t = some el) (hty : elNT P el = some nt)
    (hps : ps.toList = []) (hz : zeroC P el = some zg) (hl : len = 0) (hn : hp nm = .free)
    (he : ∀ x, VRel hp ν (e x) (ρ x)) (hm : Mem base G w0 w hp ν) : Good P base G w0 hp ν ρ o w (one (.sl nm)) (upd hp nm (.nrow false nt [] el)) := by
  subst hl
  have hp0 : ps.size = 0 := by rw [← Array.length_toList, hps]; rfl
  obtain ⟨cv, hrun, hrel, hcs⟩ := rowN_run (w := w) (xs := []) (e := e) ho hu hty (by rw [hps]; rfl) hz hp0 (by simp) he
  have hown := rowN_own (w := w) (el := el) hcs (by simp)
  have hcv : cv.toList = [] := List.length_eq_zero_iff.1 (by rw [Array.length_toList, hcs]; simp)
  rw [hcv] at hown
  have hmem := hm.new (w' := w.alloc (.cells cv el)) hn (e := .nrow false nt [] el) (v := .slice (some ⟨w.heap.size, 0, none⟩) 0 0) rfl rfl rfl (by simp) (fun k hk => heap_alloc_old _ _ _ hk)
    (fun g hg => by simp [blk] at hg; omega) ⟨_, hown⟩ (by simp) (fun B _ _ => ⟨_, by rw [upd_same]; exact hown, rfl, fun q => by cases q⟩)
  refine ⟨_, _, _, .inl hrun, ?_, hmem.1, hmem.2⟩
  exact ⟨_, rfl, by rw [upd_same]; simp, by rw [upd_same], _, _, _, rfl⟩
end
end Go.Sx
/- Numbers, texts, slices: what one operation does. -/
set_option linter.unusedVariables false
set_option linter.unusedSimpArgs false
namespace Go.Sx
open Go.RowKit (wrap64)

theorem bytes_eq (a b : ByteArray) : (a.toList == b.toList) = decide (a = b) := by
  rw [ByteArray.toList_eq, ByteArray.toList_eq]
  obtain ⟨⟨x⟩⟩ := a
  obtain ⟨⟨y⟩⟩ := b
  rw [Bool.eq_iff_iff]
  simp
theorem beq_dec (a b : Int) : (a == b) = decide (a = b) := rfl
theorem VRel.int {hp : Hp} {ν : Nat → Value} {k : IntKind} {n : Int} {v : Value} (h : VRel hp ν (.a false [.int k n]) v) : v = .int k n := by
  obtain ⟨z, hz, h⟩ := h; injection hz with hz _; subst hz; exact h
theorem VRel.str {hp : Hp} {ν : Nat → Value} {s : ByteArray} {v : Value} (h : VRel hp ν (.a false [.str s]) v) : v = .string s := by
  obtain ⟨z, hz, h⟩ := h; injection hz with hz _; subst hz; exact h
theorem VRel.bool {hp : Hp} {ν : Nat → Value} {s : SB} {v : Value} (h : VRel hp ν (.a false [.bool s]) v) : v = .bool s.b := by
  obtain ⟨z, hz, h⟩ := h; injection hz with hz _; subst hz; exact h
theorem VRel.nils {hp : Hp} {ν : Nat → Value} {v : Value} (h : VRel hp ν (.a false [.nils]) v) : v = .slice none 0 0 := by
  obtain ⟨z, hz, h⟩ := h; injection hz with hz _; subst hz; exact h
theorem VRel.sl {hp : Hp} {ν : Nat → Value} {n : Nat} {v : Value} (h : VRel hp ν (.a false [.sl n]) v) : hp n ≠ .free ∧ v = ν n ∧ ∃ A l c, v = .slice A l c := by
  obtain ⟨z, hz, h⟩ := h; injection hz with hz _; subst hz; exact h
section
variable {P : Program} {base : Nat} {G : GS} {w0 w : World} {hp : Hp} {ν : Nat → Value} {ρ : Operand → Value} {e : Operand → SV} {o : Oper}
theorem eqGuard_int (op : BinOp) (t : TypeId) (x y : Operand) (k k' : IntKind) (a b : Int) : (eqGuard op t x y (.int k a) (.int k' b)).run P w = .ok () w := by
  cases op <;> simp [eqGuard]
theorem eqGuard_str (op : BinOp) (t : TypeId) (x y : Operand) (a b : ByteArray) : (eqGuard op t x y (.string a) (.string b)).run P w = .ok () w := by
  cases op <;> simp [eqGuard]
theorem eqGuard_bool (op : BinOp) (t : TypeId) (x y : Operand) (a b : Bool) : (eqGuard op t x y (.bool a) (.bool b)).run P w = .ok () w := by
  cases op <;> simp [eqGuard]
theorem binA_run {op : BinOp} {t : TypeId} {x y : SV} {vx vy : Value} {c : List SB} {v : SC} (h : binA P op t x y = some (c, v)) (hx : VRel hp ν x vx) (hy : VRel hp ν y vy) (hc : ∀ s ∈ c, s.b = true) (px py : Operand) :
    ∃ u, (eqGuard op t px py vx vy).run P w = .ok () w ∧ (binOp op t vx vy).run P w = .ok u w ∧ CRel hp ν v u := by
  unfold binA at h
  split at h
  · rename_i k a k' b
    obtain rfl := hx.int
    obtain rfl := hy.int
    cases op
    case shl =>
      simp only [Option.some.injEq, Prod.mk.injEq] at h
      obtain ⟨rfl, rfl⟩ := h
      have h0 := hc (.le 0 b) (by simp)
      simp only [SB.b, decide_eq_true_eq] at h0
      refine ⟨_, eqGuard_int .., ?_, rfl⟩
      have : ¬ b < 0 := by omega
      simp [binOp, Op.shift, this, wr_eq]
    case shr =>
      simp only [Option.some.injEq, Prod.mk.injEq] at h
      obtain ⟨rfl, rfl⟩ := h
      have h0 := hc (.le 0 b) (by simp)
      simp only [SB.b, decide_eq_true_eq] at h0
      refine ⟨_, eqGuard_int .., ?_, rfl⟩
      have : ¬ b < 0 := by omega
      simp [binOp, Op.shift, this]
    all_goals
      cases hk : keq k k' with
      | false => rw [hk] at h; simp at h
      | true =>
        rw [hk] at h
        have := keq_eq hk
        subst this
        simp only [cnd_true, Option.some.injEq, Prod.mk.injEq] at h
        obtain ⟨rfl, rfl⟩ := h
        refine ⟨_, eqGuard_int .., ?_, rfl⟩
        first
          | (simp [binOp, Op.intArith, Op.intCmp, Op.intBits, wr_eq, iand, ior, ixor, iandn, SB.b, bne]; done)
          | (simp [binOp]; rfl)
          | (have h0 := hc (.not (.eq b 0)) (by simp)
             simp only [SB.b, Bool.not_eq_true', decide_eq_false_iff_not] at h0
             simp [binOp, Op.intDiv, wr_eq, h0]
             done)
  · rename_i a b
    obtain rfl := hx.str
    obtain rfl := hy.str
    split at h
    · simp only [Option.some.injEq, Prod.mk.injEq] at h
      obtain ⟨rfl, rfl⟩ := h
      have h0 := hc (.le ((a.size + b.size : Nat) : Int) 9223372036854775807) (by simp)
      simp only [SB.b, decide_eq_true_eq] at h0
      refine ⟨_, eqGuard_str .., ?_, rfl⟩
      have : ¬ (9223372036854775807 : Int) < a.size + b.size := by omega
      simp [binOp, Op.stringOp, IntKind.max, IntKind.signed, IntKind.bits, this]
    · simp only [Option.some.injEq, Prod.mk.injEq] at h
      obtain ⟨rfl, rfl⟩ := h
      refine ⟨_, eqGuard_str .., ?_, rfl⟩
      simp only [binOp, Op.stringOp, bytes_eq, SB.b]
      rfl
    · simp only [Option.some.injEq, Prod.mk.injEq] at h
      obtain ⟨rfl, rfl⟩ := h
      refine ⟨_, eqGuard_str .., ?_, rfl⟩
      simp only [binOp, Op.stringOp, bytes_eq, SB.b]
      rfl
    · simp at h
  · rename_i a b
    obtain rfl := hx.bool
    obtain rfl := hy.bool
    split at h
    · rename_i hu
      simp only [Option.some.injEq, Prod.mk.injEq] at h
      obtain ⟨rfl, rfl⟩ := h
      refine ⟨_, eqGuard_bool .., ?_, rfl⟩
      have he := run_equal_bool (P := P) w t a.b b.b hu
      simp [binOp, he, SB.b]
    · rename_i hu
      simp only [Option.some.injEq, Prod.mk.injEq] at h
      obtain ⟨rfl, rfl⟩ := h
      refine ⟨_, eqGuard_bool .., ?_, rfl⟩
      have he := run_equal_bool (P := P) w t a.b b.b hu
      simp [binOp, he, SB.b]
    · simp at h
  · simp at h
/-! ### structs: == -/
theorem eqCell_run {D : Nat} {t : TypeId} {x y : SC} {vx vy : Value} {s : SB} (h : eqCell x y = some s) (hx : CRel hp ν x vx) (hy : CRel hp ν y vy)
    (hu : (∀ k n, x = .int k n → ∃ k', P.underlying t = some (.int k')) ∧ (∀ b, x = .bool b → P.underlying t = some .bool) ∧ (∀ b, x = .str b → P.underlying t = some .string)) :
    (Op.equalIn (D + 1) t vx vy).run P w = .ok s.b w := by
  unfold eqCell at h
  split at h
  · rename_i k a k' b
    cases hk : keq k k' with
    | false => rw [hk] at h; simp at h
    | true =>
      rw [hk] at h
      have := keq_eq hk
      subst this
      simp only [cnd_true, Option.some.injEq] at h
      subst h
      cases hx
      cases hy
      obtain ⟨k', hu'⟩ := hu.1 _ _ rfl
      simp [Op.equalIn, run_underlying hu', SB.b]
      rfl
  · simp only [Option.some.injEq] at h
    subst h
    cases hx
    cases hy
    simp [Op.equalIn, run_underlying (hu.2.1 _ rfl), SB.b]
  · simp only [Option.some.injEq] at h
    subst h
    cases hx
    cases hy
    have : ∀ a b : ByteArray, (a == b) = decide (a = b) := fun a b => by rw [beq_toListBytes, bytes_eq]
    simp [Op.equalIn, run_underlying (hu.2.2 _ rfl), SB.b, this]
  · simp at h
/-- Cells of a type, as one value. -/
def ofCells (P : Program) (t : TypeId) (vs : List Value) : Value :=
  match P.underlying t with
  | some (.struct _) => .agg vs.toArray
  | some (.array _ _) => .agg vs.toArray
  | _ => vs.headD .nilFunc
theorem part_cells {ft : TypeId} {vs : List Value} {off n : Nat} (hs : szOf P ft = some n) (hle : off + n ≤ vs.length) (hu : (P.underlying ft).isSome = true) (h1 : (∀ fs, P.underlying ft ≠ some (.struct fs)) → (∀ m e, P.underlying ft ≠ some (.array m e)) → 0 < n) :
    (part ft vs.toArray off).run P w = .ok (ofCells P ft ((vs.drop off).take n)) w := by
  obtain ⟨i, hi, hn⟩ := szOf_some hs
  have hext : vs.toArray.extract off (off + n) = ((vs.drop off).take n).toArray := by
    apply Array.ext'
    simp [List.extract_eq_take_drop]
  cases hd : P.underlying ft with
  | none => rw [hd] at hu; simp at hu
  | some d =>
    have plain : ∀ (_ : (isAgg ft).run P w = .ok false w) (_ : 0 < n), (part ft vs.toArray off).run P w = .ok (((vs.drop off).take n).headD .nilFunc) w := by
      intro ha h0
      have hlt : off < vs.length := by omega
      have hget : vs.toArray[off]? = some vs[off] := by simp [hlt]
      have hhead : ((vs.drop off).take n).headD .nilFunc = vs[off] := by
        rw [List.drop_eq_getElem_cons hlt]
        cases n with
        | zero => omega
        | succ n => rfl
      rw [hhead]
      simp [part, ha, hget]
    have hrun : ∀ (b : Bool), (match d with | .struct _ => true | .array _ _ => true | _ => false) = b → (isAgg ft).run P w = .ok b w := by
      intro b hb
      rw [isAgg, Sem.run_bind, run_underlying hd]
      cases d <;> simp_all
    unfold ofCells
    rw [hd]
    cases d <;> first
      | (have ha := hrun true rfl
         simp [part, ha, sizeOf, typeInfo, hi, hn, hext]
         done)
      | (exact plain (hrun false rfl) (h1 (by rw [hd]; simp) (by rw [hd]; simp)))
theorem eqFs_run {f : TypeId → List SC → List SC → Option SB} {D : Nat}
    (ih : ∀ (t : TypeId) (xs ys : List SC) (vs us : List Value) (s : SB), f t xs ys = some s → CsRel hp ν xs vs → CsRel hp ν ys us →
      ((P.underlying t).isSome = true ∧ ((∀ fs, P.underlying t ≠ some (.struct fs)) → (∀ m e, P.underlying t ≠ some (.array m e)) → 0 < vs.length)) ∧ (Op.equalIn D t (ofCells P t vs) (ofCells P t us)).run P w = .ok s.b w)
    {xs ys : List SC} {vs us : List Value} (hx : CsRel hp ν xs vs) (hy : CsRel hp ν ys us) : ∀ (fs : List Field) (s : SB), eqFs f P xs ys fs = some s → (Op.eqFields D vs.toArray us.toArray fs).run P w = .ok s.b w
  | [], s, h => by simp [eqFs] at h
  | [x], s, h => by
    simp only [eqFs] at h
    split at h
    · rename_i n hs
      cases hn : (x.name == "_") with
      | true => rw [hn] at h; simp at h
      | false =>
        rw [hn] at h
        simp only [cnd_false] at h
        cases hc : (Nat.ble (x.offset + n) xs.length && Nat.ble (x.offset + n) ys.length) with
        | false => rw [hc] at h; simp at h
        | true =>
          rw [hc] at h
          simp only [cnd_true] at h
          rw [Bool.and_eq_true] at hc
          have c1 := Nat.le_of_ble_eq_true hc.1
          have c2 := Nat.le_of_ble_eq_true hc.2
          have l1 := hx.len
          have l2 := hy.len
          obtain ⟨⟨p1, p2⟩, he⟩ := ih x.type _ _ _ _ s h ((hx.drop x.offset).take n) ((hy.drop x.offset).take n)
          have lv : ((vs.drop x.offset).take n).length = n := by simp; omega
          rw [lv] at p2
          have ha := part_cells (w := w) (vs := vs) (off := x.offset) hs (by omega) p1 p2
          have hb := part_cells (w := w) (vs := us) (off := x.offset) hs (by omega) p1 p2
          have hn' : x.name ≠ "_" := by simpa using hn
          simp only [Op.eqFields, if_pos hn', Sem.run_bind, ha, hb, he, Result.andThen_ok]
          cases s.b <;> simp
    · simp at h
  | x :: y :: r, s, h => by
    simp only [eqFs] at h
    split at h
    · rename_i n hs
      cases hn : (x.name == "_") with
      | true => rw [hn] at h; simp at h
      | false =>
        rw [hn] at h
        simp only [cnd_false] at h
        cases hc : (Nat.ble (x.offset + n) xs.length && Nat.ble (x.offset + n) ys.length) with
        | false => rw [hc] at h; simp at h
        | true =>
          rw [hc] at h
          simp only [cnd_true] at h
          split at h
          · rename_i s1 s2 h1 h2
            simp only [Option.some.injEq] at h
            subst h
            rw [Bool.and_eq_true] at hc
            have c1 := Nat.le_of_ble_eq_true hc.1
            have c2 := Nat.le_of_ble_eq_true hc.2
            have l1 := hx.len
            have l2 := hy.len
            obtain ⟨⟨p1, p2⟩, he⟩ := ih x.type _ _ _ _ s1 h1 ((hx.drop x.offset).take n) ((hy.drop x.offset).take n)
            have lv : ((vs.drop x.offset).take n).length = n := by simp; omega
            rw [lv] at p2
            have ha := part_cells (w := w) (vs := vs) (off := x.offset) hs (by omega) p1 p2
            have hb := part_cells (w := w) (vs := us) (off := x.offset) hs (by omega) p1 p2
            have hn' : x.name ≠ "_" := by simpa using hn
            have hr := eqFs_run ih hx hy (y :: r) s2 h2
            rw [Op.eqFields]
            simp only [if_pos hn', Sem.run_bind, ha, hb, he, Result.andThen_ok, SB.b]
            cases hsb : s1.b
            · simp
            · simpa using hr
          · simp at h
    · simp at h
theorem eqS_run : ∀ (d D : Nat) (t : TypeId) (xs ys : List SC) (vs us : List Value) (s : SB), eqS P d t xs ys = some s → CsRel hp ν xs vs → CsRel hp ν ys us →
    ((P.underlying t).isSome = true ∧ ((∀ fs, P.underlying t ≠ some (.struct fs)) → (∀ m e, P.underlying t ≠ some (.array m e)) → 0 < vs.length)) ∧ (Op.equalIn (D + d) t (ofCells P t vs) (ofCells P t us)).run P w = .ok s.b w
  | 0, _, _, _, _, _, _, _, h, _, _ => by simp [eqS] at h
  | d + 1, D, t, xs, ys, vs, us, s, h, hx, hy => by
    simp only [eqS] at h
    split at h
    · rename_i fs hu
      cases hp' : P.stoodInHeld t with
      | true => rw [hp'] at h; simp at h
      | false =>
        rw [hp'] at h
        simp only [cnd_false] at h
        have hf : P.fieldsOf t = fs := by simp [Program.fieldsOf, hu]
        refine ⟨⟨by rw [hu]; rfl, fun hh => absurd hu (hh fs)⟩, ?_⟩
        have := eqFs_run (w := w) (D := D + d) (fun t xs ys vs us s h hx hy => eqS_run d D t xs ys vs us s h hx hy) hx hy fs.toList s h
        unfold ofCells
        rw [hu]
        show (Op.equalIn ((D + d) + 1) t (.agg vs.toArray) (.agg us.toArray)).run P w = _
        rw [run_equalIn_struct (P := P) w (D + d) t _ _ (by rw [hf]; exact hu) hp', hf]
        exact this
    · rename_i k hu
      split at h
      · rename_i k1 a k2 b
        match vs, us, hx, hy with
        | [v], [u], hx, hy =>
          refine ⟨⟨by rw [hu]; rfl, fun _ _ => by simp⟩, ?_⟩
          have := eqCell_run (P := P) (w := w) (D := D + d) (t := t) h hx.1 hy.1 ⟨fun _ _ _ => ⟨_, hu⟩, fun _ hh => (nomatch hh), fun _ hh => (nomatch hh)⟩
          show (Op.equalIn ((D + d) + 1) t _ _).run P w = _
          simpa [ofCells, hu] using this
        | [], _, hx, _ => exact hx.elim
        | _ :: _ :: _, _, hx, _ => exact hx.2.elim
        | _, [], _, hy => exact hy.elim
        | _, _ :: _ :: _, _, hy => exact hy.2.elim
      · simp at h
    · rename_i hu
      split at h
      · rename_i a b
        match vs, us, hx, hy with
        | [v], [u], hx, hy =>
          refine ⟨⟨by rw [hu]; rfl, fun _ _ => by simp⟩, ?_⟩
          have := eqCell_run (P := P) (w := w) (D := D + d) (t := t) h hx.1 hy.1 ⟨fun _ _ hh => (nomatch hh), fun _ _ => hu, fun _ hh => (nomatch hh)⟩
          show (Op.equalIn ((D + d) + 1) t _ _).run P w = _
          simpa [ofCells, hu] using this
        | [], _, hx, _ => exact hx.elim
        | _ :: _ :: _, _, hx, _ => exact hx.2.elim
        | _, [], _, hy => exact hy.elim
        | _, _ :: _ :: _, _, hy => exact hy.2.elim
      · simp at h
    · rename_i hu
      split at h
      · rename_i a b
        match vs, us, hx, hy with
        | [v], [u], hx, hy =>
          refine ⟨⟨by rw [hu]; rfl, fun _ _ => by simp⟩, ?_⟩
          have := eqCell_run (P := P) (w := w) (D := D + d) (t := t) h hx.1 hy.1 ⟨fun _ _ hh => (nomatch hh), fun _ hh => (nomatch hh), fun _ _ => hu⟩
          show (Op.equalIn ((D + d) + 1) t _ _).run P w = _
          simpa [ofCells, hu] using this
        | [], _, hx, _ => exact hx.elim
        | _ :: _ :: _, _, hx, _ => exact hx.2.elim
        | _, [], _, hy => exact hy.elim
        | _, _ :: _ :: _, _, hy => exact hy.2.elim
      · simp at h
    · simp at h
theorem eqA_run {t : TypeId} {x y : SV} {vx vy : Value} {s : SB} (h : eqA P t x y = some s) (hx : VRel hp ν x vx) (hy : VRel hp ν y vy) (px py : Operand) :
    (∀ op, (eqGuard op t px py vx vy).run P w = .ok () w) ∧ (binOp .eql t vx vy).run P w = .ok (.bool s.b) w ∧ (binOp .neq t vx vy).run P w = .ok (.bool (!s.b)) w := by
  unfold eqA at h
  split at h
  · rename_i xs ys
    obtain ⟨vs, rfl, hx⟩ := hx
    obtain ⟨us, rfl, hy⟩ := hy
    split at h
    · rename_i fs hu
      cases hg : P.eqGuardType P.depth t with
      | true => rw [hg] at h; simp at h
      | false =>
        rw [hg] at h
        simp only [cnd_false] at h
        have := (eqS_run (w := w) 5 9995 t xs ys _ _ s h hx hy).2
        unfold ofCells at this
        rw [hu] at this
        simp only [Array.toArray_toList] at this
        have he : (Op.equal t (.agg vs) (.agg us)).run P w = .ok s.b w := this
        refine ⟨fun op => ?_, ?_, ?_⟩
        · cases op <;> simp [eqGuard, hg]
        · simp [binOp, he]
        · simp [binOp, he]
    · simp at h
  · simp at h
theorem good_bin {op : BinOp} {t t' : TypeId} {x y : Operand} {cs : List SB} {v : SC} (ho : o.op = .binOp op t x y t') (h : binA P op t (e x) (e y) = some (cs, v)) (hc : ∀ s ∈ cs, s.b = true)
    (he : ∀ x, VRel hp ν (e x) (ρ x)) (hm : Mem base G w0 w hp ν) : Good P base G w0 hp ν ρ o w (one v) hp := by
  obtain ⟨u, h1, h2, h3⟩ := binA_run (w := w) h (he x) (he y) hc x y
  refine good_same (u := u) ?_ ⟨v, rfl, h3⟩ hm
  unfold execOp
  rw [ho]
  simp [h1, h2]
theorem good_eq {op : BinOp} {t t' : TypeId} {x y : Operand} {s : SB} (ho : o.op = .binOp op t x y t') (h : eqA P t (e x) (e y) = some s) (he : ∀ x, VRel hp ν (e x) (ρ x)) (hm : Mem base G w0 w hp ν) :
    (op = .eql → Good P base G w0 hp ν ρ o w (one (.bool s)) hp) ∧ (op = .neq → Good P base G w0 hp ν ρ o w (one (.bool (.not s))) hp) := by
  obtain ⟨h1, h2, h3⟩ := eqA_run (w := w) h (he x) (he y) x y
  constructor
  · rintro rfl
    refine good_same (u := .bool s.b) ?_ ⟨_, rfl, rfl⟩ hm
    unfold execOp
    rw [ho]
    simp [h1, h2]
  · rintro rfl
    refine good_same (u := .bool (!s.b)) ?_ ⟨_, rfl, rfl⟩ hm
    unfold execOp
    rw [ho]
    simp [h1, h3]
theorem good_un {op : UnOp} {t : TypeId} {x : Operand} {v : SC} (ho : o.op = .unOp op t x) (h : unA op (e x) = some v) (he : ∀ x, VRel hp ν (e x) (ρ x)) (hm : Mem base G w0 w hp ν) : Good P base G w0 hp ν ρ o w (one v) hp := by
  have hx := he x
  unfold unA at h
  split at h
  · rename_i s hex
    rw [hex] at hx
    obtain ⟨z, hz, hxv⟩ := hx
    injection hz with hz _
    subst hz
    simp only [Option.some.injEq] at h
    subst h
    refine good_same (u := .bool (!s.b)) ?_ ⟨_, rfl, rfl⟩ hm
    unfold execOp
    rw [ho]
    have hxv' : ρ x = .bool s.b := hxv
    simp [hxv', Op.unary]
  · rename_i k a hex
    rw [hex] at hx
    obtain ⟨z, hz, hxv⟩ := hx
    injection hz with hz _
    subst hz
    simp only [Option.some.injEq] at h
    subst h
    refine good_same (u := .int k (wr k (0 - a))) ?_ ⟨_, rfl, rfl⟩ hm
    unfold execOp
    rw [ho]
    have hxv' : ρ x = .int k a := hxv
    simp [hxv', Op.unary, Op.intArith, wr_eq]
  · simp at h
end
end Go.Sx
/- Slices: read, cut, made, appended to. -/
set_option linter.unusedVariables false
set_option linter.unusedSimpArgs false
namespace Go.Sx
open Go.RowKit (wrap64)

theorem flat_int (k : IntKind) (l : List Int) : Ty.flat (.int k) l = l.map (Value.int k) := by
  induction l with
  | nil => rfl
  | cons x l ih =>
    have : Ty.flat (.int k) (x :: l) = Value.int k x :: Ty.flat (.int k) l := rfl
    exact this.trans (congrArg (Value.int k x :: ·) ih)
theorem bstr_eq : ∀ (l : List Int) (s : ByteArray), l.foldl (fun r n => r.push (UInt8.ofNat n.toNat)) s = ⟨s.data ++ (l.map fun n => UInt8.ofNat n.toNat).toArray⟩
  | [], s => by simp
  | x :: l, s => by
    rw [List.foldl_cons, bstr_eq l]
    simp only [ByteArray.push, List.map_cons]
    congr 1
    apply Array.ext'
    simp
theorem bytes_empty {s : ByteArray} (h : s.size = 0) : s = ByteArray.empty := by
  obtain ⟨⟨l⟩⟩ := s
  have : l = [] := List.length_eq_zero_iff.1 (by simpa [ByteArray.size] using h)
  subst this
  rfl
theorem zEq_rel {hp : Hp} {ν : Nat → Value} : ∀ (t : Ty) {xs r : List SC} {vs : List Value}, zEq t xs = some r → CsRel hp ν xs vs → ∃ us, vs = t.cells t.zero ++ us ∧ CsRel hp ν r us
  | .int k, xs, r, vs, h, hr => by
    match xs, vs, hr with
    | .int k' n :: xs, v :: vs, hr =>
      simp only [zEq] at h
      cases hc : (keq k k' && decide (n = 0)) with
      | false => rw [hc] at h; simp at h
      | true =>
        rw [hc] at h
        simp only [cnd_true, Option.some.injEq] at h
        subst h
        rw [Bool.and_eq_true] at hc
        have h1 := keq_eq hc.1
        have h2 := of_decide_eq_true hc.2
        subst h1 h2
        exact ⟨vs, by rw [hr.1]; rfl, hr.2⟩
    | [], _, _ => simp [zEq] at h
    | .any :: _, _, _ | .bool _ :: _, _, _ | .str _ :: _, _, _ | .ptr _ _ :: _, _, _ | .nilp :: _, _, _ | .sl _ :: _, _, _ | .nils :: _, _, _ | .ep _ _ _ _ :: _, _, _ | .pj _ _ _ _ :: _, _, _ | .pg _ _ _ _ :: _, _, _ => simp [zEq] at h
  | .bool, xs, r, vs, h, hr => by
    match xs, vs, hr with
    | .bool (.lit false) :: xs, v :: vs, hr =>
      simp only [zEq, Option.some.injEq] at h
      subst h
      exact ⟨vs, by rw [hr.1]; rfl, hr.2⟩
    | [], _, _ => simp [zEq] at h
    | .bool (.lit true) :: _, _, _ | .bool (.lt _ _) :: _, _, _ | .bool (.le _ _) :: _, _, _ | .bool (.eq _ _) :: _, _, _ | .bool (.not _) :: _, _, _ | .bool (.and _ _) :: _, _, _ | .bool (.v _) :: _, _, _ | .bool (.se _ _) :: _, _, _ => simp [zEq] at h
    | .any :: _, _, _ | .int _ _ :: _, _, _ | .str _ :: _, _, _ | .ptr _ _ :: _, _, _ | .nilp :: _, _, _ | .sl _ :: _, _, _ | .nils :: _, _, _ | .ep _ _ _ _ :: _, _, _ | .pj _ _ _ _ :: _, _, _ | .pg _ _ _ _ :: _, _, _ => simp [zEq] at h
  | .str, xs, r, vs, h, hr => by
    match xs, vs, hr with
    | .str s :: xs, v :: vs, hr =>
      simp only [zEq] at h
      cases hc : Nat.beq s.size 0 with
      | false => rw [hc] at h; simp at h
      | true =>
        rw [hc] at h
        simp only [cnd_true, Option.some.injEq] at h
        subst h
        have := bytes_empty (Nat.eq_of_beq_eq_true hc)
        subst this
        exact ⟨vs, by rw [hr.1]; rfl, hr.2⟩
    | [], _, _ => simp [zEq] at h
    | .any :: _, _, _ | .int _ _ :: _, _, _ | .bool _ :: _, _, _ | .ptr _ _ :: _, _, _ | .nilp :: _, _, _ | .sl _ :: _, _, _ | .nils :: _, _, _ | .ep _ _ _ _ :: _, _, _ | .pj _ _ _ _ :: _, _, _ | .pg _ _ _ _ :: _, _, _ => simp [zEq] at h
  | .pair a b, xs, r, vs, h, hr => by
    simp only [zEq] at h
    split at h
    · rename_i r1 h1
      obtain ⟨us, rfl, hu⟩ := zEq_rel a h1 hr
      obtain ⟨us', rfl, hu'⟩ := zEq_rel b h hu
      exact ⟨us', by simp [Ty.cells, Ty.zero], hu'⟩
    · simp at h
theorem flat_replicate (t : Ty) (z : Array Value) (hz : z.toList = t.cells t.zero) (n : Nat) : (madeCells z (n * t.size)).toList = t.flat (List.replicate n t.zero) := by
  have hs : z.size = t.size := by rw [← Array.length_toList, hz, Ty.cells_len]
  have hp := Ty.size_pos t
  apply List.ext_getElem?
  intro j
  by_cases hj : j < n * t.size
  · have hd : j / t.size < n := by rw [Nat.div_lt_iff_lt_mul hp]; exact hj
    have hm : j % t.size < t.size := Nat.mod_lt _ hp
    have hj2 : j = (j / t.size) * t.size + j % t.size := by rw [Nat.mul_comm]; exact (Nat.div_add_mod j t.size).symm
    have hr : (t.flat (List.replicate n t.zero))[j]? = (t.cells t.zero)[j % t.size]? := by
      conv => lhs; rw [hj2]
      rw [Ty.flat_get t _ (j / t.size) (j % t.size) (by simpa using hd) hm, List.getElem_replicate]
    rw [hr, ← hz]
    have hlt : j % z.size < z.size := by rw [hs]; exact hm
    have e : (madeCells z (n * t.size)).toList[j]? = some z[j % z.size]! := by
      simp [madeCells, hj]
    rw [e, ← hs, Array.getElem?_toList, Array.getElem?_eq_getElem hlt, getElem!_pos z _ hlt]
  · rw [List.getElem?_eq_none (by rw [Array.length_toList, size_madeCells]; omega), List.getElem?_eq_none (by rw [Ty.flat_len]; simp; omega)]
theorem zEqN_rel {hp : Hp} {ν : Nat → Value} : ∀ (t : NT) {xs r : List SC} {vs : List Value}, zEqN t xs = some r → CsRel hp ν xs vs → ∃ us vr, vs = us ++ vr ∧ (∀ w B, NCells w B t t.zero us) ∧ CsRel hp ν r vr
  | .f t, xs, r, vs, h, hr => by
    obtain ⟨us, rfl, hu⟩ := zEq_rel t h hr
    exact ⟨_, us, rfl, fun w B => rfl, hu⟩
  | .sl t, xs, r, vs, h, hr => by
    match xs, vs, hr with
    | .nils :: xs, v :: vs, hr =>
      simp only [zEqN, Option.some.injEq] at h
      subst h
      exact ⟨[v], vs, rfl, fun w B => ⟨v, rfl, none, 0, hr.1, Nat.le_refl _, Nat.zero_le _, fun q => absurd rfl q⟩, hr.2⟩
    | [], _, _ => simp [zEqN] at h
    | .any :: _, _, _ | .int _ _ :: _, _, _ | .bool _ :: _, _, _ | .str _ :: _, _, _ | .ptr _ _ :: _, _, _ | .nilp :: _, _, _ | .sl _ :: _, _, _ | .ep _ _ _ _ :: _, _, _ | .pj _ _ _ _ :: _, _, _ | .pg _ _ _ _ :: _, _, _ => simp [zEqN] at h
  | .pair a b, xs, r, vs, h, hr => by
    simp only [zEqN] at h
    split at h
    · rename_i r1 h1
      obtain ⟨us, vr, rfl, k1, hu⟩ := zEqN_rel a h1 hr
      obtain ⟨us', vr', rfl, k2, hu'⟩ := zEqN_rel b h hu
      exact ⟨us ++ us', vr', by simp, fun w B => ⟨us, us', rfl, k1 w B, k2 w B⟩, hu'⟩
    · simp at h
theorem made_succ (z : Array Value) (h0 : 0 < z.size) (n : Nat) : (madeCells z ((n + 1) * z.size)).toList = z.toList ++ (madeCells z (n * z.size)).toList := by
  have hm : (n + 1) * z.size = n * z.size + z.size := by rw [Nat.add_mul, Nat.one_mul]
  apply List.ext_getElem?
  intro j
  by_cases hj : j < (n + 1) * z.size
  · have e : (madeCells z ((n + 1) * z.size)).toList[j]? = some z[j % z.size]! := by simp [madeCells, hj]
    rw [e]
    by_cases hz : j < z.size
    · rw [List.getElem?_append_left (by simpa using hz), Array.getElem?_toList, Nat.mod_eq_of_lt hz, Array.getElem?_eq_getElem hz, getElem!_pos z _ hz]
    · have hj2 : j - z.size < n * z.size := by omega
      have e2 : (madeCells z (n * z.size)).toList[j - z.size]? = some z[(j - z.size) % z.size]! := by simp [madeCells, hj2]
      rw [List.getElem?_append_right (by rw [Array.length_toList]; omega), Array.length_toList, e2]
      have : j % z.size = (j - z.size) % z.size := Nat.mod_eq_sub_mod (by omega)
      rw [this]
  · rw [List.getElem?_eq_none (by rw [Array.length_toList, size_madeCells]; omega), List.getElem?_eq_none (by rw [List.length_append, Array.length_toList, Array.length_toList, size_madeCells]; omega)]
theorem nflat_made {w : World} {B : Nat → Prop} (t : NT) (z : Array Value) (hz : NCells w B t t.zero z.toList) : ∀ n : Nat, NFlat w B t (List.replicate n t.zero) (madeCells z (n * z.size)).toList
  | 0 => by
    have e0 : (madeCells z (0 * z.size)).toList = [] := by rw [Nat.zero_mul]; simp [madeCells]
    rw [e0]
    exact rfl
  | n + 1 => by
    have hs : 0 < z.size := by rw [← Array.length_toList, NCells.len t _ _ hz]; exact NT.size_pos t
    rw [made_succ z hs n, List.replicate_succ]
    exact ⟨_, _, rfl, hz, nflat_made t z hz n⟩
section
variable {P : Program} {base : Nat} {G : GS} {w0 w : World} {hp : Hp} {ν : Nat → Value} {ρ : Operand → Value} {e : Operand → SV} {o : Oper}
/-- What a slice that is read says of the machine's. -/
structure Reads (w : World) (ty : Ty) (l : List ty.T) (v : Value) : Prop where
  out : ∃ A c, v = .slice A l.length c ∧ l.length ≤ c ∧ l.length ≤ maxLen ∧ (l ≠ [] → ∃ a, A = some a ∧ ∀ j u, (ty.flat l)[j]? = some u → w.cell? (a.add j) = some u)
theorem ent_reads {n : Nat} {ty : Ty} {l : List ty.T} {e' : TypeId} (hen : hp n = .row ty l e' ∨ hp n = .ro ty l e' ∨ hp n = .ex ty l e') (h : EntRel base hp ν w (hp n) (ν n)) : Reads w ty l (ν n) := by
  rcases hen with hh | hh | hh
  · rw [hh] at h
    have h' : w.ownsRow 0 e' ty.size (ν n) l.length (ty.flat l) := h
    rcases h'.2 with ⟨h1, h2⟩ | ⟨g, cap, cur, h1, _, _, h2, h3, _⟩
    · refine ⟨none, 0, by rw [h1, h2], by omega, by omega, fun hl => absurd (List.length_eq_zero_iff.1 h2) hl⟩
    · refine ⟨_, cap, h1, h2, by omega, fun _ => ⟨_, rfl, fun j u hu => ?_⟩⟩
      exact h'.cells (g := g) (by rw [h1]; rfl) j u hu
  · rw [hh] at h
    exact ⟨h⟩
  · rw [hh] at h
    rcases h with ⟨h1, h2⟩ | ⟨g, off, c, vs, e2, fz, h1, h2, h3, h4, h5, h6, h7⟩
    · subst h2
      exact ⟨none, 0, h1, Nat.le_refl _, Nat.zero_le _, fun hl => absurd rfl hl⟩
    · refine ⟨_, c, h1, h2, h3, fun _ => ⟨_, rfl, fun j u hu => ?_⟩⟩
      rw [Addr.add_mid, cell_of_row w g _ vs e2 fz h4]
      exact h7 j u hu
theorem RoVal.reads {B : Nat → Prop} {ty : Ty} {l : List ty.T} {v : Value} (h : RoVal w B ty l v) : Reads w ty l v := by
  obtain ⟨A, c, h1, h2, h3, h4⟩ := h
  exact ⟨A, c, h1, h2, h3, fun hl => by obtain ⟨a, h5, _, h6⟩ := h4 hl; exact ⟨a, h5, h6⟩⟩
/-- What a slice within an element of a row says. -/
theorem pj_in {n sz off : Nat} {i : Int} {nt : NT} {l : List nt.T} {e' : TypeId} {ty : Ty} {m : List ty.T} {v : Value} (hen : hp n = .nro nt l e') (hsz : sz = nt.size) (hcol : NT.col ty nt (nt.get l i) off = some m) (hx : CRel hp ν (.pj n sz i off) v) {B : Nat → Prop} (hB : NestOK base G w hp ν B) : RoVal w B ty m v := by
  obtain ⟨hnf, hf1, _, A, L, c, cs, hs, hi0, hil, hcs, hv⟩ := hx
  have hrel := hB.rel n
  rw [hen] at hrel
  obtain ⟨_, A', c', cs', h1, h2, h3, h4⟩ := hrel
  rw [hcs] at h2
  injection h2 with h2
  subst h2
  rw [hs] at h1
  simp only [Value.slice.injEq] at h1
  obtain ⟨h1, rfl, rfl⟩ := h1
  have hil' : i.toNat < l.length := by omega
  rw [nget_at nt l i hi0 hil] at hcol
  obtain ⟨ps, us, rs, e1, e2, e3, _⟩ := NFlat.at nt l _ i.toNat hil' h4
  obtain ⟨u, h5, h6⟩ := NT.col_rel nt _ us off hcol e3
  have : cs[i.toNat * sz + off]? = some u := by
    have hj := (List.getElem?_eq_some_iff.1 h5).1
    rw [← Array.getElem?_toList, e1, List.getElem?_append_right (by rw [e2, hsz]; omega), e2, hsz, List.getElem?_append_left (by omega), ← h5]
    congr 1
    omega
  rw [hv] at this
  injection this with this
  subst this
  exact h6
theorem pj_reads {n sz off : Nat} {i : Int} {nt : NT} {l : List nt.T} {e' : TypeId} {ty : Ty} {m : List ty.T} {v : Value} (hen : hp n = .nro nt l e') (hsz : sz = nt.size) (hcol : NT.col ty nt (nt.get l i) off = some m) (hx : CRel hp ν (.pj n sz i off) v) (hm : Mem base G w0 w hp ν) :
    ∃ B, NestOK base G w hp ν B ∧ RoVal w B ty m v := by
  obtain ⟨B, hB⟩ := hm.nest
  exact ⟨B, hB, pj_in hen hsz hcol hx hB⟩
theorem readL_rel {av : Av} {ty : Ty} {x : SC} {l : List ty.T} {v : Value} (h : readL av hp ty x = some l) (hx : CRel hp ν x v) (hm : Mem base G w0 w hp ν) : Reads w ty l v := by
  unfold readL at h
  split at h
  · simp only [Option.some.injEq] at h
    subst h
    cases hx
    exact ⟨none, 0, rfl, by simp, by simp, by simp⟩
  · rename_i n
    obtain ⟨_, rfl, _⟩ := hx
    split at h
    · rename_i t l' e' hen
      cases hr : rdOk av n with
      | false => rw [hr] at h; simp at h
      | true =>
        rw [hr] at h
        simp only [cnd_true] at h
        split at h
        · rename_i heq _
          simp only [Option.some.injEq] at h
          subst heq
          subst h
          exact ent_reads (.inl hen) (hm.ent n)
        · simp at h
    · rename_i t l' e' hen
      split at h
      · rename_i heq _
        simp only [Option.some.injEq] at h
        subst heq
        subst h
        exact ent_reads (.inr (.inl hen)) (hm.ent n)
      · simp at h
    · rename_i t l' e' hen
      cases hr : rdOk av n with
      | false => rw [hr] at h; simp at h
      | true =>
        rw [hr] at h
        simp only [cnd_true] at h
        split at h
        · rename_i heq _
          simp only [Option.some.injEq] at h
          subst heq
          subst h
          exact ent_reads (.inr (.inr hen)) (hm.ent n)
        · simp at h
    · simp at h
  · rename_i n sz i off
    split at h
    · rename_i nt l' e' hen
      cases hb : Nat.beq sz nt.size with
      | false => rw [hb] at h; simp at h
      | true =>
        rw [hb] at h
        simp only [cnd_true] at h
        obtain ⟨B, _, h1⟩ := pj_reads hen (Nat.eq_of_beq_eq_true hb) h hx hm
        exact h1.reads
    · simp at h
  · rename_i n sz i off
    split at h
    · rename_i nt l' hen
      cases hb : Nat.beq sz nt.size with
      | false => rw [hb] at h; simp at h
      | true =>
        rw [hb] at h
        simp only [cnd_true] at h
        obtain ⟨B, hB⟩ := hm.nest
        exact (pg_in hen (Nat.eq_of_beq_eq_true hb) h hx hB).reads
    · simp at h
  · simp at h
theorem lenA_run {av : Av} {t : TypeId} {x : SV} {n : Int} {v : Value} (h : lenA P av hp t x = some n) (hx : VRel hp ν x v) (hm : Mem base G w0 w hp ν) (ty : TypeId) : (Builtin.len_ #[t] ty #[v]).run P w = .ok (.int .i64 n) w := by
  unfold lenA at h
  split at h
  · rename_i s
    obtain rfl := hx.str
    split at h
    · rename_i hu
      simp only [Option.some.injEq] at h
      subst h
      simp [Builtin.len_, run_underlying hu, goInt]
    · simp at h
  · obtain rfl := hx.nils
    split at h
    · rename_i e' hu
      simp only [Option.some.injEq] at h
      subst h
      simp [Builtin.len_, run_underlying hu, goInt]
    · simp at h
  · rename_i n'
    obtain ⟨_, rfl, _⟩ := hx.sl
    split at h
    · rename_i e' hu
      split at h
      · rename_i ty' l e'' hen
        cases hr : rdOk av n' with
        | false => rw [hr] at h; simp at h
        | true =>
          rw [hr] at h
          simp only [cnd_true, Option.some.injEq] at h
          subst h
          obtain ⟨A, c, hv, _⟩ := (ent_reads (.inl hen) (hm.ent n')).out
          rw [hv]
          simp [Builtin.len_, run_underlying hu, goInt]
      · rename_i ty' l e'' hen
        simp only [Option.some.injEq] at h
        subst h
        obtain ⟨A, c, hv, _⟩ := (ent_reads (.inr (.inl hen)) (hm.ent n')).out
        rw [hv]
        simp [Builtin.len_, run_underlying hu, goInt]
      · rename_i ty' l e'' hen
        cases hr : rdOk av n' with
        | false => rw [hr] at h; simp at h
        | true =>
          rw [hr] at h
          simp only [cnd_true, Option.some.injEq] at h
          subst h
          obtain ⟨A, c, hv, _⟩ := (ent_reads (.inr (.inr hen)) (hm.ent n')).out
          rw [hv]
          simp [Builtin.len_, run_underlying hu, goInt]
      · rename_i ty' l e'' hen
        simp only [Option.some.injEq] at h
        subst h
        have hent := hm.ent n'
        rw [hen] at hent
        obtain ⟨A, c, fl, hv, _⟩ := hent
        rw [hv]
        simp [Builtin.len_, run_underlying hu, goInt]
      · rename_i gg ty' l e'' hen
        cases hr : rdOk av n' with
        | false => rw [hr] at h; simp at h
        | true =>
          rw [hr] at h
          simp only [cnd_true, Option.some.injEq] at h
          subst h
          have hent := hm.ent n'
          rw [hen] at hent
          obtain ⟨fl, hent⟩ := hent
          have hv : ∃ A c, ν n' = .slice A l.length c := by
            rcases hent.2 with ⟨h1, h2⟩ | ⟨g, cap, cur, h1, _⟩
            · exact ⟨none, 0, by rw [h1, h2]⟩
            · exact ⟨_, _, h1⟩
          obtain ⟨A, c, hv⟩ := hv
          rw [hv]
          simp [Builtin.len_, run_underlying hu, goInt]
      · simp at h
    · simp at h
  · split at h
    · rename_i el hu
      split at h
      · rename_i ety hty
        split at h
        · rename_i l hl
          simp only [Option.some.injEq] at h
          subst h
          obtain ⟨y, hy, hc⟩ := hx
          injection hy with hy _
          subst hy
          obtain ⟨A, c, hv, _⟩ := (readL_rel hl hc hm).out
          rw [hv]
          simp [Builtin.len_, run_underlying hu, goInt]
        · simp at h
      · simp at h
    · simp at h
  · split at h
    · rename_i el hu
      split at h
      · rename_i ety hty
        split at h
        · rename_i l hl
          simp only [Option.some.injEq] at h
          subst h
          obtain ⟨y, hy, hc⟩ := hx
          injection hy with hy _
          subst hy
          obtain ⟨A, c, hv, _⟩ := (readL_rel hl hc hm).out
          rw [hv]
          simp [Builtin.len_, run_underlying hu, goInt]
        · simp at h
      · simp at h
    · simp at h
  · simp at h
theorem run_bstr {l : List Int} {v : Value} (h : Reads w (.int .u8) l v) : (Conv.bytesToString v).run P w = .ok (.string (bstr l)) w := by
  obtain ⟨A, c, rfl, _, _, hr⟩ := h.out
  by_cases hl : l = []
  · subst hl
    cases A with
    | none =>
      have : (Conv.bytesToString (.slice none 0 c)).run P w = .ok (.string ByteArray.empty) w := by simp [Conv.bytesToString]
      exact this
    | some a =>
      have := run_bytesToString (P := P) w a 0 c [] (by simp [loadCells, loadCellsFrom])
      exact this
  · obtain ⟨a, rfl, hcells⟩ := hr hl
    have hl2 := run_loadCells_list (P := P) w a (l.map (Value.int .u8)) (fun j u hu => hcells j u (by rw [flat_int]; exact hu))
    rw [List.length_map] at hl2
    have := run_bytesToString (P := P) w a l.length c l hl2
    refine this.trans ?_
    rw [bstr_eq l]
    simp [bstr]
/-! ### bounds of a cut -/
theorem bounds_run (b : Bool) (len cap : Nat) (lo hi : Option Value) (l h : Int) (hcap : len ≤ cap)
    (hhi : (hi = none ∧ h = (len : Int)) ∨ (∃ k, hi = some (.int k h) ∧ 0 ≤ h ∧ h ≤ (cap : Int))) (hlo : (lo = none ∧ l = 0) ∨ (∃ k, lo = some (.int k l))) (hlh : 0 ≤ l ∧ l ≤ h) :
    (Instr.sliceBounds b len cap lo hi none).run P w = .ok (l.toNat, h.toNat, cap) w := by
  rcases hhi with ⟨rfl, rfl⟩ | ⟨k, rfl, h0, h1⟩
  · rcases hlo with ⟨rfl, rfl⟩ | ⟨k', rfl⟩
    · simp [Instr.sliceBounds]
    · have : l ≤ (len : Int) := hlh.2
      simp [Instr.sliceBounds, Instr.sliceBound, asIntOf, hlh.1, this]
  · have e1 : (Instr.sliceBound (.int k h) cap (if b then .sliceAcap else .sliceAlen)).run P w = .ok h.toNat w := by
      simp [Instr.sliceBound, asIntOf, h0, h1]
    rcases hlo with ⟨rfl, rfl⟩ | ⟨k', rfl⟩
    · simp [Instr.sliceBounds, e1]
    · have e2 : (Instr.sliceBound (.int k' l) h.toNat .sliceB).run P w = .ok l.toNat w := by
        have : l ≤ ((h.toNat : Nat) : Int) := by omega
        simp only [Instr.sliceBound, asIntOf, Sem.run_bind, Sem.run_pure, Result.andThen_ok]
        rw [if_pos ⟨hlh.1, this⟩]
        rfl
      simp [Instr.sliceBounds, e1, e2]
end
end Go.Sx
/- Slices: cut, made, appended to; one operation, whichever. -/
set_option linter.unusedVariables false
set_option linter.unusedSimpArgs false
namespace Go.Sx
open Go.RowKit (wrap64)

theorem flat_take (t : Ty) (l : List t.T) (n : Nat) : t.flat (l.take n) = (t.flat l).take (n * t.size) := by
  by_cases h : n ≤ l.length
  · have e : t.flat l = t.flat (l.take n) ++ t.flat (l.drop n) := by rw [← Ty.flat_append, List.take_append_drop]
    have hl : (t.flat (l.take n)).length = n * t.size := by rw [Ty.flat_len, List.length_take, Nat.min_eq_left h]
    rw [e, ← hl, List.take_left]
  · rw [List.take_of_length_le (by omega), List.take_of_length_le (by rw [Ty.flat_len]; exact Nat.mul_le_mul_right _ (by omega))]
theorem flat_drop (t : Ty) (l : List t.T) (n : Nat) : t.flat (l.drop n) = (t.flat l).drop (n * t.size) := by
  by_cases h : n ≤ l.length
  · have e : t.flat l = t.flat (l.take n) ++ t.flat (l.drop n) := by rw [← Ty.flat_append, List.take_append_drop]
    have hl : (t.flat (l.take n)).length = n * t.size := by rw [Ty.flat_len, List.length_take, Nat.min_eq_left h]
    rw [e, ← hl, List.drop_left]
  · rw [List.drop_of_length_le (by omega), List.drop_of_length_le (by rw [Ty.flat_len]; exact Nat.mul_le_mul_right _ (by omega))]
    rfl
section
variable {P : Program} {base : Nat} {G : GS} {w0 w : World} {hp : Hp} {ν : Nat → Value} {ρ : Operand → Value} {e : Operand → SV} {o : Oper}
/-- What a bound is, as the machine has it. -/
theorem opd_some {x : Option Operand} {n : Option Int} (h : intOpd (x.map e) = some n) (he : ∀ x, VRel hp ν (e x) (ρ x)) :
    (x = none ∧ n = none) ∨ (∃ k m, n = some m ∧ x.map ρ = some (.int k m)) := by
  cases x with
  | none => simp only [Option.map_none, intOpd, Option.some.injEq] at h; subst h; exact .inl ⟨rfl, rfl⟩
  | some y =>
    simp only [Option.map_some] at h
    unfold intOpd at h
    split at h
    · rename_i h1; simp at h1
    · rename_i k m h1
      simp only [Option.some.injEq] at h h1
      subst h
      have := he y
      rw [h1] at this
      exact .inr ⟨k, m, rfl, by rw [Option.map_some, this.int]⟩
    · simp at h
/-- The machine's bounds, out of the conditions. -/
theorem cut_bounds {lo hi : Option Operand} {lo' hi' : Option Int} {len cap : Nat} (hlo : intOpd (lo.map e) = some lo') (hhi : intOpd (hi.map e) = some hi') (he : ∀ x, VRel hp ν (e x) (ρ x)) (hcap : len ≤ cap)
    (hc : ∀ s ∈ cutC lo' hi' (len : Int), s.b = true) (b : Bool) :
    0 ≤ lo'.getD 0 ∧ lo'.getD 0 ≤ hi'.getD (len : Int) ∧ hi'.getD (len : Int) ≤ (len : Int) ∧
    (Instr.sliceBounds b len cap (lo.map ρ) (hi.map ρ) none).run P w = .ok ((lo'.getD 0).toNat, (hi'.getD (len : Int)).toNat, cap) w := by
  have hH : 0 ≤ hi'.getD (len : Int) ∧ hi'.getD (len : Int) ≤ (len : Int) := by
    cases hi' with
    | none => simp
    | some h =>
      have h1 := hc (.le 0 h) (by simp [cutC, oD_eq])
      have h2 := hc (.le h (len : Int)) (by simp [cutC, oD_eq])
      simp only [SB.b, decide_eq_true_eq] at h1 h2
      exact ⟨h1, h2⟩
  have hL : 0 ≤ lo'.getD 0 ∧ lo'.getD 0 ≤ hi'.getD (len : Int) := by
    cases lo' with
    | none => exact ⟨Int.le_refl _, hH.1⟩
    | some l =>
      have h1 := hc (.le 0 l) (by simp [cutC, oD_eq])
      have h2 := hc (.le l (hi'.getD (len : Int))) (by simp [cutC, oD_eq])
      simp only [SB.b, decide_eq_true_eq] at h1 h2
      exact ⟨h1, h2⟩
  refine ⟨hL.1, hL.2, hH.2, ?_⟩
  refine bounds_run b len cap _ _ _ _ hcap ?_ ?_ hL
  · rcases opd_some hhi he with ⟨rfl, rfl⟩ | ⟨k, m, rfl, h2⟩
    · exact .inl ⟨rfl, rfl⟩
    · exact .inr ⟨k, h2, hH.1, by have := hH.2; simp only [Option.getD_some] at this ⊢; omega⟩
  · rcases opd_some hlo he with ⟨rfl, rfl⟩ | ⟨k, m, rfl, h2⟩
    · exact .inl ⟨rfl, rfl⟩
    · exact .inr ⟨k, h2⟩
theorem grownBy_refl (w : World) (r : Option Nat) : w.grownBy w r := ⟨rfl, rfl, rfl, Nat.le_refl _, fun _ _ _ => rfl⟩
/-- A new name for memory that is read alone. -/
theorem Mem.share (h : Mem base G w0 w hp ν) {nm : Nat} (hn : hp nm = .free) {ty : Ty} {l : List ty.T} {e' : TypeId} {v : Value} (he : EntRel base hp ν w (.ro ty l e') v)
    (hsep : l ≠ [] → ∀ m, wrE (hp m) → ∀ g, blk (ν m) = some g → blk v ≠ some g) :
    Mem base G w0 w (upd hp nm (.ro ty l e')) (upd ν nm v) ∧ Ext hp ν (upd hp nm (.ro ty l e')) (upd ν nm v) := by
  have hext := Ext.new (ν := ν) hn (.ro ty l e') v
  refine ⟨⟨fun n => ?_, fun n m hne hwn hlm g hg => ?_, fun n hwn g hg => ?_, h.fr, h.nest.imp fun B hB => hB.add hn trivial (fun q => q.elim)⟩, hext⟩
  · by_cases hnm : n = nm
    · subst hnm; rw [upd_same, upd_same]; exact he.mono hext
    · rw [upd_other _ _ hnm, upd_other _ _ hnm]; exact (h.ent n).mono hext
  · have hnn : n ≠ nm := fun e => by subst e; rw [upd_same] at hwn; exact hwn
    rw [upd_other _ _ hnn] at hwn hg
    by_cases hmm : m = nm
    · subst hmm
      rw [upd_same] at hlm ⊢
      exact hsep hlm n hwn g hg
    · rw [upd_other _ _ hmm] at hlm ⊢
      exact h.sep n m hne hwn hlm g hg
  · have hnn : n ≠ nm := fun e => by subst e; rw [upd_same] at hwn; exact hwn
    rw [upd_other _ _ hnn] at hwn hg
    exact h.mine n hwn g hg
theorem good_slice {t : TypeId} {x : Operand} {lo hi : Option Operand} {av : Av} {nm : Nat} {cs : List SB} {v : SV} {hp' : Hp} (ho : o.op = .slice t x lo hi none)
    (h : sliceA P av t nm hp (e x) (lo.map e) (hi.map e) = some (cs, v, hp')) (hc : ∀ s ∈ cs, s.b = true) (he : ∀ x, VRel hp ν (e x) (ρ x)) (hm : Mem base G w0 w hp ν) : Good P base G w0 hp ν ρ o w v hp' := by
  unfold sliceA at h
  split at h
  case h_2 => simp at h
  rename_i lo' hi' hlo hhi
  have hx := he x
  split at h
  · rename_i s hex
    rw [hex] at hx
    have hxv := hx.str
    split at h
    case h_2 => simp at h
    rename_i hu
    simp only [Option.some.injEq, Prod.mk.injEq] at h
    obtain ⟨rfl, rfl, rfl⟩ := h
    obtain ⟨b1, b2, b3, hb⟩ := cut_bounds (P := P) (w := w) (len := s.size) (cap := s.size) hlo hhi he (Nat.le_refl _) hc false
    refine good_same (u := .string (s.extract (lo'.getD 0).toNat (hi'.getD (s.size : Int)).toNat)) ?_ ⟨_, rfl, by rw [oD_eq, oD_eq]; rfl⟩ hm
    unfold execOp
    rw [ho]
    simp [hxv, Instr.sliceAt, Instr.slice, run_underlying hu, hb]
  · rename_i n hex
    rw [hex] at hx
    obtain ⟨hnf, hxv, A0, L0, c0, hsl⟩ := hx.sl
    split at h
    case h_2 => simp at h
    rename_i e'' hn hus
    have hu := sliceOf_some hus
    have run : ∀ (A : Option Addr) (len cap l h m : Nat), ρ x = .slice A len cap → szOf P e'' = some m → (Instr.sliceBounds true len cap (lo.map ρ) (hi.map ρ) none).run P w = .ok (l, h, cap) w →
        (execOp ρ o).run P w = .ok (.value (.slice (if cap = l then A else A.map (·.add (l * m))) (h - l) (cap - l))) w := by
      intro A len cap l h m hxa hs hb
      obtain ⟨i, hi', hn'⟩ := szOf_some hs
      unfold execOp
      rw [ho]
      simp [hxa, Instr.sliceAt, Instr.slice, run_underlying hu, hb, sizeOf, typeInfo, hi', hn']
    split at h
    · rename_i ty l e' hen
      split at h
      case h_2 => simp at h
      rename_i m hsz
      cases hmz : Nat.beq m ty.size with
      | false => rw [hmz] at h; simp at h
      | true =>
        rw [hmz] at h
        have hmz' := Nat.eq_of_beq_eq_true hmz
        subst hmz'
        simp only [cnd_true, Option.some.injEq, Prod.mk.injEq] at h
        obtain ⟨rfl, rfl, rfl⟩ := h
        obtain ⟨A, c, hv, hlc, hlm, hr⟩ := (ent_reads (.inr (.inl hen)) (hm.ent n)).out
        obtain ⟨b1, b2, b3, hb⟩ := cut_bounds (P := P) (w := w) (len := l.length) (cap := c) hlo hhi he hlc hc true
        rw [oD_eq, oD_eq]
        generalize hH : (hi'.getD (l.length : Int)).toNat = H at hb ⊢
        generalize hL : (lo'.getD 0).toNat = Lo at hb ⊢
        have hHl : H ≤ l.length := by omega
        have hLH : Lo ≤ H := by omega
        have hlen : ((l.take H).drop Lo).length = H - Lo := by simp; omega
        have hrun := run A l.length c Lo H ty.size (hxv.trans hv) hsz hb
        rw [← hlen] at hrun
        have hmem := hm.share (nm := nm) hn (ty := ty) (l := (l.take H).drop Lo) (e' := e') (v := .slice (if c = Lo then A else A.map (·.add (Lo * ty.size))) ((l.take H).drop Lo).length (c - Lo)) ?_ ?_
        · refine ⟨_, w, _, .inl hrun, ?_, hmem.1, hmem.2⟩
          exact ⟨_, rfl, by rw [upd_same]; simp, by rw [upd_same], _, _, _, rfl⟩
        · refine ⟨_, _, rfl, by omega, by omega, fun hne => ?_⟩
          have hpos : 0 < H - Lo := by rw [← hlen]; exact List.length_pos_iff.2 hne
          have hl0 : l ≠ [] := fun e => by subst e; simp at hHl; omega
          obtain ⟨a, rfl, hcells⟩ := hr hl0
          have hcl : ¬ c = Lo := by omega
          refine ⟨a.add (Lo * ty.size), by rw [if_neg hcl]; rfl, fun j u hu' => ?_⟩
          rw [Addr.add_add]
          refine hcells _ u ?_
          rw [flat_drop, flat_take, List.getElem?_drop, List.getElem?_take] at hu'
          split at hu'
          · exact hu'
          · cases hu'
        · intro hne m' hwm g hg hcon
          have hpos : 0 < H - Lo := by rw [← hlen]; exact List.length_pos_iff.2 hne
          have hl0 : l ≠ [] := fun e => by subst e; simp at hHl; omega
          obtain ⟨a, rfl, hcells⟩ := hr hl0
          have hcl : ¬ c = Lo := by omega
          rw [if_neg hcl] at hcon
          simp only [Option.map_some, blk, Option.some.injEq, add_block] at hcon
          have hne' : m' ≠ n := fun e => by subst e; rw [hen] at hwm; exact hwm
          exact hm.sep m' n hne' hwm (by rw [hen]; exact hl0) g hg (by rw [hv]; simp [blk, hcon])
    · rename_i ty l e' hen
      split at h
      case h_3 => simp at h
      case h_2 =>
        rename_i lo2 m hsz
        cases hmz : (wrOk av n && Nat.beq m ty.size) with
        | false => rw [hmz] at h; simp at h
        | true =>
          rw [hmz] at h
          rw [Bool.and_eq_true] at hmz
          have hmz' := Nat.eq_of_beq_eq_true hmz.2
          subst hmz'
          simp only [cnd_true, Option.some.injEq, Prod.mk.injEq] at h
          obtain ⟨rfl, rfl, rfl⟩ := h
          have hent := hm.ent n
          rw [hen] at hent
          have hown : w.ownsRow 0 e' ty.size (ν n) l.length (ty.flat l) := hent
          obtain ⟨A, c, hv, hlc, hlm, hr⟩ := (ent_reads (.inl hen) (hm.ent n)).out
          obtain ⟨b1, b2, b3, hb⟩ := cut_bounds (P := P) (w := w) (len := l.length) (cap := c) hlo hhi he hlc hc true
          rw [oD_eq]
          simp only [Option.getD_some] at b1 b2 hb
          generalize hH : (hi'.getD (l.length : Int)).toNat = H at hb ⊢
          generalize hL : lo2.toNat = Lo at hb ⊢
          have hHl : H ≤ l.length := by omega
          have hLH : Lo ≤ H := by omega
          have hlen : ((l.take H).drop Lo).length = H - Lo := by simp; omega
          have hrun := run A l.length c Lo H ty.size (hxv.trans hv) hsz hb
          rw [← hlen] at hrun
          have hmem := hm.turn (w' := w) (n := n) (nm := nm) hn hen (e := .ex ty ((l.take H).drop Lo) e') (v := .slice (if c = Lo then A else A.map (·.add (Lo * ty.size))) ((l.take H).drop Lo).length (c - Lo)) (grownBy_refl w _) (fun g hg => ?_) ?_ (by simp)
          · refine ⟨_, w, _, .inl hrun, ?_, hmem.1, hmem.2⟩
            exact ⟨_, rfl, by rw [upd_same]; simp, by rw [upd_same], _, _, _, rfl⟩
          · right
            rw [hv]
            cases A with
            | none => split at hg <;> simp [blk] at hg
            | some a => split at hg <;> simpa [blk, add_block] using hg
          · rcases hown.2 with ⟨h1, h2⟩ | ⟨g, cap, cur, h1, hbg, hheap, hnc, hcm, hcs, htake⟩
            · rw [hv] at h1
              simp only [Value.slice.injEq] at h1
              obtain ⟨rfl, h3, rfl⟩ := h1
              have hl0 : l = [] := List.length_eq_zero_iff.1 h2
              subst hl0
              left
              simp
            · right
              rw [hv] at h1
              simp only [Value.slice.injEq, true_and] at h1
              obtain ⟨rfl, rfl⟩ := h1
              have hmulc : l.length * ty.size ≤ c * ty.size := Nat.mul_le_mul_right _ hnc
              by_cases hcl : c = Lo
              · rw [if_pos hcl]
                have h0 : H - Lo = 0 := by omega
                refine ⟨g, 0, c - Lo, cur, e', (0, 0), rfl, by omega, by omega, hheap, by rw [hlen, h0]; omega, .inl (Nat.le_refl _), fun j u hu => ?_⟩
                have : (l.take H).drop Lo = [] := List.length_eq_zero_iff.1 (by omega)
                rw [this] at hu
                simp [Ty.flat] at hu
              · rw [if_neg hcl]
                refine ⟨g, Lo * ty.size, c - Lo, cur, e', (0, 0), by rw [Option.map_some, Addr.add_mid, Nat.zero_add], by omega, by omega, hheap, ?_, .inl (Nat.le_refl _), fun j u hu => ?_⟩
                · rw [hlen, ← Nat.add_mul, hcs]
                  exact Nat.mul_le_mul_right _ (by omega)
                · rw [flat_drop, flat_take, List.getElem?_drop, List.getElem?_take] at hu
                  split at hu
                  · rw [← htake, List.getElem?_take] at hu
                    split at hu
                    · simpa using hu
                    · cases hu
                  · cases hu
      rename_i m hsz
      cases hmz : (wrOk av n && Nat.beq m ty.size) with
      | false => rw [hmz] at h; simp at h
      | true =>
        rw [hmz] at h
        rw [Bool.and_eq_true] at hmz
        have hmz' := Nat.eq_of_beq_eq_true hmz.2
        subst hmz'
        simp only [cnd_true, Option.some.injEq, Prod.mk.injEq] at h
        obtain ⟨rfl, rfl, rfl⟩ := h
        have hent := hm.ent n
        rw [hen] at hent
        have hown : w.ownsRow 0 e' ty.size (ν n) l.length (ty.flat l) := hent
        obtain ⟨A, c, hv, hlc, hlm, hr⟩ := (ent_reads (.inl hen) (hm.ent n)).out
        obtain ⟨b1, b2, b3, hb⟩ := cut_bounds (P := P) (w := w) (len := l.length) (cap := c) hlo hhi he hlc hc true
        rw [oD_eq]
        generalize hH : (hi'.getD (l.length : Int)).toNat = H at hb ⊢
        have hHl : H ≤ l.length := by omega
        have hrun := run A l.length c 0 H ty.size (hxv.trans hv) hsz (by simpa using hb)
        have hA : (if c = 0 then A else A.map (·.add (0 * ty.size))) = A := by
          split
          · rfl
          · cases A <;> simp [Addr.add]
        rw [hA, Nat.sub_zero, Nat.sub_zero] at hrun
        have hlen : (l.take H).length = H := by simp; omega
        have hmem := hm.turn (w' := w) (n := n) (nm := nm) hn hen (e := .row ty (l.take H) e') (v := .slice A H c) (grownBy_refl w _) (fun g hg => ?_) ?_ (by simp)
        · refine ⟨_, w, _, .inl hrun, ?_, hmem.1, hmem.2⟩
          exact ⟨_, rfl, by rw [upd_same]; simp, by rw [upd_same], _, _, _, rfl⟩
        · right
          rw [hv]
          cases A with
          | none => simp [blk] at hg
          | some a => simpa [blk] using hg
        · show w.ownsRow 0 e' ty.size (.slice A H c) (l.take H).length (ty.flat (l.take H))
          rw [hlen, flat_take]
          refine ⟨by rw [List.length_take, Ty.flat_len, Nat.min_eq_left (Nat.mul_le_mul_right _ hHl)], ?_⟩
          rcases hown.2 with ⟨h1, h2⟩ | ⟨g, cap, cur, h1, hbg, hheap, hnc, hcm, hcs, htake⟩
          · rw [hv] at h1
            simp only [Value.slice.injEq] at h1
            obtain ⟨rfl, h3, rfl⟩ := h1
            left
            have : H = 0 := by omega
            subst this
            exact ⟨rfl, rfl⟩
          · right
            rw [hv] at h1
            simp only [Value.slice.injEq, true_and] at h1
            obtain ⟨rfl, rfl⟩ := h1
            refine ⟨g, c, cur, rfl, hbg, hheap, by omega, hcm, hcs, ?_⟩
            rw [← htake, List.take_take, Nat.min_eq_left (Nat.mul_le_mul_right _ hHl)]
    · simp at h
  · simp at h
theorem good_make {t el : TypeId} {n c : Operand} {a b : Int} {ka kb : IntKind} {ty : Ty} {by_ nm : Nat} {zg : Bool} {z : List SC} (ho : o.op = .makeSlice t n c) (hn : VRel hp ν (.a false [.int ka a]) (ρ n)) (hc : VRel hp ν (.a false [.int kb b]) (ρ c)) (hu : sliceOf P t = some el) (hty : elTy P el = some ty)
    (hby : (P.info? el).map (·.bytes) = some by_) (hf : hp nm = .free) (hz : zeroC P el = some (zg, z)) (hzE : zEq ty z = some []) (hb0 : Nat.blt 0 by_ = true) (h1 : a = b) (h2 : 0 ≤ a) (h3 : a * by_ ≤ 140737488355328) (hm : Mem base G w0 w hp ν) :
    Good P base G w0 hp ν ρ o w (one (.sl nm)) (upd hp nm (.row ty (List.replicate a.toNat ty.zero) el)) := by
  subst h1
  have hus := sliceOf_some hu
  obtain ⟨i, hi, hsz⟩ := elTy_some hty
  obtain ⟨i', zv, hi', hzv, hrel⟩ := zeroC_rel hz
  rw [hi] at hi'
  injection hi' with hi'
  subst hi'
  rw [hi] at hby
  simp only [Option.map_some, Option.some.injEq] at hby
  subst hby
  obtain ⟨us, hus', hnil⟩ := zEq_rel (hp := hp) (ν := ν) ty hzE (hrel hp ν).cells
  have hus0 : us = [] := by
    cases us with
    | nil => rfl
    | cons _ _ => exact hnil.elim
  subst hus0
  rw [List.append_nil] at hus'
  have hpos : 1 ≤ i.bytes := Nat.le_of_ble_eq_true hb0
  have hale : a ≤ 140737488355328 := by
    have : a * 1 ≤ a * (i.bytes : Int) := Int.mul_le_mul_of_nonneg_left (by omega) h2
    omega
  have hr := run_make (P := P) w t el i zv hus hi hzv ka kb a a h2 (Int.le_refl _) (by rw [Int.mul_comm]; omega) (by omega)
  refine good_row (ty := ty) (l := List.replicate a.toNat ty.zero) (cap := a.toNat) (cur := madeCells zv.cells (a.toNat * i.size)) hf ?_ (by simp) (by simp only [maxLen]; omega) (by rw [size_madeCells, hsz]) ?_ hm
  · unfold execOp
    rw [ho]
    simp only [hn.int, hc.int, Sem.run_bind, hr, Result.andThen_ok, List.length_replicate]
    rfl
  · rw [hsz, flat_replicate ty zv.cells hus' a.toNat, List.take_of_length_le (by rw [Ty.flat_len]; simp)]
theorem good_makeN {t el : TypeId} {n c : Operand} {a b : Int} {ka kb : IntKind} {nt : NT} {by_ nm : Nat} {zg : Bool} {z : List SC} (ho : o.op = .makeSlice t n c) (hn : VRel hp ν (.a false [.int ka a]) (ρ n)) (hc : VRel hp ν (.a false [.int kb b]) (ρ c)) (hu : sliceOf P t = some el) (hty : elNT P el = some nt)
    (hby : (P.info? el).map (·.bytes) = some by_) (hf : hp nm = .free) (hz : zeroC P el = some (zg, z)) (hzE : zEqN nt z = some []) (hb0 : Nat.blt 0 by_ = true) (h1 : a = b) (h2 : 0 ≤ a) (h3 : a * by_ ≤ 140737488355328) (hm : Mem base G w0 w hp ν) :
    Good P base G w0 hp ν ρ o w (one (.sl nm)) (upd hp nm (.nrow false nt (List.replicate a.toNat nt.zero) el)) := by
  subst h1
  have hus := sliceOf_some hu
  obtain ⟨i, hi, hsz⟩ := elNT_some hty
  obtain ⟨i', zv, hi', hzv, hrel⟩ := zeroC_rel hz
  rw [hi] at hi'
  injection hi' with hi'
  subst hi'
  rw [hi] at hby
  simp only [Option.map_some, Option.some.injEq] at hby
  subst hby
  obtain ⟨us, vr, hus', hcell, hnil⟩ := zEqN_rel (hp := hp) (ν := ν) nt hzE (hrel hp ν).cells
  have hus0 : vr = [] := by
    cases vr with
    | nil => rfl
    | cons _ _ => exact hnil.elim
  subst hus0
  rw [List.append_nil] at hus'
  have hpos : 1 ≤ i.bytes := Nat.le_of_ble_eq_true hb0
  have hale : a ≤ 140737488355328 := by
    have : a * 1 ≤ a * (i.bytes : Int) := Int.mul_le_mul_of_nonneg_left (by omega) h2
    omega
  have hr := run_make (P := P) w t el i zv hus hi hzv ka kb a a h2 (Int.le_refl _) (by rw [Int.mul_comm]; omega) (by omega)
  have hzs : zv.cells.size = nt.size := by rw [← Array.length_toList, hus', NCells.len nt nt.zero us (hcell w (fun _ => True))]
  have hl : (List.replicate a.toNat nt.zero).length = a.toNat := List.length_replicate
  have hcl : ∀ (w : World) (B : Nat → Prop), NFlat w B nt (List.replicate a.toNat nt.zero) (madeCells zv.cells (a.toNat * i.size)).toList := fun w B => by
    have := nflat_made (w := w) (B := B) nt zv.cells (by rw [hus']; exact hcell w B) a.toNat
    rw [hzs, ← hsz] at this
    exact this
  have hrun : (execOp ρ o).run P w = .ok (.value (.slice (some ⟨w.heap.size, 0, none⟩) (List.replicate a.toNat nt.zero).length a.toNat)) (w.alloc (.cells (madeCells zv.cells (a.toNat * i.size)) el)) := by
    unfold execOp
    rw [ho]
    simp only [hn.int, hc.int, Sem.run_bind, hr, Result.andThen_ok, List.length_replicate]
    rfl
  have hown : (w.alloc (.cells (madeCells zv.cells (a.toNat * i.size)) el)).ownsRow 0 el nt.size (.slice (some ⟨w.heap.size, 0, none⟩) (List.replicate a.toNat nt.zero).length a.toNat) (List.replicate a.toNat nt.zero).length (madeCells zv.cells (a.toNat * i.size)).toList := by
    refine ⟨by rw [Array.length_toList, size_madeCells, hl, hsz], .inr ⟨w.heap.size, a.toNat, madeCells zv.cells (a.toNat * i.size), rfl, Nat.zero_le _, heap_alloc_new _ _, by rw [hl]; exact Nat.le_refl _, by simp only [maxLen]; omega, by rw [size_madeCells, hsz], ?_⟩⟩
    rw [List.take_of_length_le (by rw [Array.length_toList, size_madeCells, hl, hsz]; exact Nat.le_refl _)]
  have hmem := hm.new (w' := w.alloc (.cells (madeCells zv.cells (a.toNat * i.size)) el)) hf (e := .nrow false nt (List.replicate a.toNat nt.zero) el) (v := .slice (some ⟨w.heap.size, 0, none⟩) (List.replicate a.toNat nt.zero).length a.toNat) rfl rfl rfl (by simp) (fun k hk => heap_alloc_old _ _ _ hk)
    (fun g hg => by simp [blk] at hg; omega) ⟨_, hown⟩ (by simp) (fun B _ _ => ⟨_, by rw [upd_same]; exact hown, hcl _ _, fun q => by cases q⟩)
  refine ⟨_, _, _, .inl hrun, ?_, hmem.1, hmem.2⟩
  exact ⟨_, rfl, by rw [upd_same]; simp, by rw [upd_same], _, _, _, rfl⟩
theorem foldI_run {f : Int → Int → Int} {g : Value → Value → Sem Value} {k : IntKind} (hg : ∀ (a b : Int), (g (.int k a) (.int k b)) = pure (.int k (f a b))) : ∀ (xs : List SV) (vs : List Value) (a n : Int),
    foldI f k a xs = some n → xs.length = vs.length → (∀ (j : Nat) (x : SV), xs[j]? = some x → ∃ v, vs[j]? = some v ∧ VRel hp ν x v) → (vs.foldlM g (.int k a)).run P w = .ok (.int k n) w
  | [], [], a, n, h, _, _ => by simp only [foldI, Option.some.injEq] at h; subst h; simp
  | x :: xs, v :: vs, a, n, h, hl, hr => by
    unfold foldI at h
    split at h
    · rename_i h1; simp at h1
    · rename_i a' k' b r h1
      simp only [List.cons.injEq] at h1
      obtain ⟨rfl, rfl⟩ := h1
      cases hk : keq k k' with
      | false => rw [hk] at h; simp at h
      | true =>
        rw [hk] at h
        have := keq_eq hk
        subst this
        obtain ⟨v', hv', hx⟩ := hr 0 (.a false [.int k b]) (by simp)
        simp only [List.getElem?_cons_zero, Option.some.injEq] at hv'
        subst hv'
        have := hx.int
        subst this
        simp only [List.foldlM_cons, hg, pure_bind]
        exact foldI_run hg xs vs _ n h (by simpa using hl) (fun j x hj => by
          obtain ⟨u, hu, hux⟩ := hr (j + 1) x (by simpa using hj)
          exact ⟨u, by simpa using hu, hux⟩)
    · simp at h
  | [], _ :: _, _, _, _, hl, _ => by simp at hl
  | _ :: _, [], _, _, _, hl, _ => by simp at hl
end
end Go.Sx
/- An append; one operation that calls nobody, whichever. -/
set_option linter.unusedVariables false
set_option linter.unusedSimpArgs false
namespace Go.Sx
open Go.RowKit (wrap64)
section
variable {P : Program} {base : Nat} {G : GS} {w0 w : World} {hp : Hp} {ν : Nat → Value} {ρ : Operand → Value} {e : Operand → SV} {o : Oper}
theorem run_append_none (t ty el : TypeId) (i : TypeInfo) (size : Nat) (c : Nat) (ht : P.underlying t = some (.slice el)) (hi : P.info? el = some i)
    (v : Value) (n : Nat) (xs : List Value) (hown : w.ownsRow base el size v n xs) : (Builtin.append_ #[t, t] ty #[v, .slice none 0 c]).run P w = .ok v w := by
  rcases hown.2 with ⟨rfl, rfl⟩ | ⟨g, cap, cur, rfl, _, _, hnc, _⟩
  · simp [Builtin.append_, run_underlying ht, sizeOf, typeInfo, hi, Builtin.lenOf, Builtin.firstCells]
  · simp [Builtin.append_, run_underlying ht, sizeOf, typeInfo, hi, Builtin.lenOf, Builtin.firstCells, hnc, storeCells]
theorem fresh_owns (w : World) (base : Nat) (e' : TypeId) (size n cap : Nat) (xs : List Value) (cur : Array Value) (hb : base ≤ w.heap.size) (hl : xs.length = n * size) (hn : n ≤ cap) (hc : cap ≤ maxLen) (hs : cur.size = cap * size) (ht : cur.toList.take (n * size) = xs) :
    (w.drew.alloc (.cells cur e')).ownsRow base e' size (.slice (some ⟨w.heap.size, 0, none⟩) n cap) n xs :=
  ⟨hl, .inr ⟨w.heap.size, cap, cur, rfl, hb, heap_alloc_new w.drew _, hn, hc, hs, ht⟩⟩
theorem append_cur (olds news : List Value) (z : Array Value) (n cap size : Nat) (hz : z.size = size) (hl : (olds ++ news).length = n * size) (hn : n ≤ cap) :
    (olds.toArray ++ news.toArray ++ Builtin.zeroCells z (cap - n)).size = cap * size ∧ (olds.toArray ++ news.toArray ++ Builtin.zeroCells z (cap - n)).toList.take (n * size) = olds ++ news := by
  constructor
  · simp only [Array.size_append, List.size_toArray, size_zeroCells, hz]
    rw [List.length_append] at hl
    rw [hl, ← Nat.add_mul]
    congr 1
    omega
  · simp only [Array.toList_append]
    rw [← hl, List.take_left]
theorem grown_alloc (w : World) (o : Obj) (r : Option Nat) : w.grownBy (w.drew.alloc o) r := ⟨rfl, rfl, rfl, by simp, fun k hk _ => heap_alloc_old w.drew o k hk⟩
theorem mul_bound {n b : Nat} (h : (n : Int) * (b : Int) ≤ 140737488355328) (hb : 0 < b) : n * b ≤ 140737488355328 ∧ n ≤ 140737488355328 := by
  have h1 : ((n * b : Nat) : Int) ≤ 140737488355328 := by rw [Int.natCast_mul]; exact h
  have h2 : n * 1 ≤ n * b := Nat.mul_le_mul_left _ hb
  omega
/-- An append, whatever the cells. -/
theorem append_run {t ty el : TypeId} {i : TypeInfo} {zv : Value} {size : Nat} (hu : P.underlying t = some (.slice el)) (hi : P.info? el = some i) (hzv : i.zero = some zv) (hsz : i.size = size) (hzs : zv.cells.size = size) (hb0 : 0 < i.bytes)
    {vs : Value} {ln : Nat} {L : List Value} (hown : w.ownsRow 0 el size vs ln L) {A : Option Addr} {k c : Nat} {X : List Value} (hX : X.length = k * size) (hone : ∀ v ∈ X, v.oneCell' = true)
    (hcl : k ≠ 0 → ∃ a, A = some a ∧ ∀ (j : Nat) u, X[j]? = some u → w.cell? (a.add j) = some u) (hk : (ln + k) * i.bytes ≤ 140737488355328) (hkn : ln + k ≤ 140737488355328) :
    ∃ v' w', (Builtin.append_ #[t, t] ty #[vs, .slice A k c]).run P w = .ok v' w' ∧ w.grownBy w' vs.ownBlock ∧ (∀ g, blk v' = some g → w.heap.size ≤ g ∨ blk vs = some g) ∧ w'.ownsRow 0 el size v' (ln + k) (L ++ X) := by
  subst hsz
  by_cases hk0 : k = 0
  · subst hk0
    have hX0 : X = [] := List.length_eq_zero_iff.1 (by rw [hX, Nat.zero_mul])
    subst hX0
    refine ⟨vs, w, ?_, grownBy_refl _ _, fun g hg => .inr hg, by simpa using hown⟩
    cases A with
    | none => exact run_append_none t _ el i i.size c hu hi _ _ _ hown
    | some a =>
      rcases hown.2 with ⟨h1, h2⟩ | ⟨g, cap, cur, h1, _, _, hnc, _⟩
      · rw [h1]; simp [Builtin.append_, run_underlying hu, sizeOf, typeInfo, hi, Builtin.lenOf, Builtin.firstCells, loadCells, loadCellsFrom]
      · rw [h1]; simp [Builtin.append_, run_underlying hu, sizeOf, typeInfo, hi, Builtin.lenOf, Builtin.firstCells, loadCells, loadCellsFrom, hnc, storeCells]
  · replace hcl := hcl hk0
    obtain ⟨a, rfl, hcl⟩ := hcl
    have hpos : 0 < k := Nat.pos_of_ne_zero hk0
    have hLl := hown.1
    rcases hown.2 with ⟨h1, h2⟩ | ⟨g, cap, cur, h1, hbg, hheap, hnc, hcm, hcs, htake⟩
    · subst h2
      have hL0 : L = [] := List.length_eq_zero_iff.1 (by rw [hLl, Nat.zero_mul])
      subst hL0
      simp only [Nat.zero_add] at hk hkn
      have hrun := run_append_nil (P := P) w t ty el i zv hu hi hzv a k c X hX hcl hpos (by omega) (by omega)
      rw [← h1] at hrun
      have hge := grownCap_ge w k 0 el
      have hcm : grownCap w k 0 el ≤ maxLen := grownCap_le_maxLen w k 0 el (by simp only [maxLen]; omega)
      have hcur := append_cur [] X zv.cells k (grownCap w k 0 el) i.size hzs (by rw [List.nil_append, hX]) hge
      simp only [Array.empty_append, List.nil_append] at hcur
      refine ⟨_, _, hrun, grown_alloc w _ _, fun g hg => by simp [blk] at hg; exact .inl (by omega), ?_⟩
      have := fresh_owns w 0 el i.size k _ X _ (Nat.zero_le _) hX hge hcm hcur.1 hcur.2
      simpa using this
    · have hownv : w.ownsRow 0 el i.size (.slice (some ⟨g, 0, none⟩) ln cap) ln L := by rw [← h1]; exact hown
      by_cases hroom : ln + k ≤ cap
      · obtain ⟨w', hr, how, hgr⟩ := run_append_fits (P := P) w 0 t ty el i i.size hu hi rfl g ln cap L hownv a k c X hX hcl hone hroom
        rw [← h1] at hr
        exact ⟨_, w', hr, by rw [h1]; exact hgr, fun g' hg' => .inr (by rw [h1]; exact hg'), how⟩
      · have holds : ∀ (j : Nat) u, L[j]? = some u → w.cell? ((⟨g, 0, none⟩ : Addr).add j) = some u := hownv.cells (g := g) rfl
        have hrun := run_append_grow (P := P) w t ty el i zv hu hi hzv ⟨g, 0, none⟩ ln cap L hLl holds a k c X hX hcl (by omega) (by omega) (growslice_fits (by omega) hk)
        rw [← h1] at hrun
        have hge := grownCap_ge w (ln + k) cap el
        have hcm' : grownCap w (ln + k) cap el ≤ maxLen := grownCap_le_maxLen w _ cap el (by simp only [maxLen]; omega)
        have hcur := append_cur L X zv.cells (ln + k) (grownCap w (ln + k) cap el) i.size hzs (by rw [List.length_append, hLl, hX, Nat.add_mul]) hge
        refine ⟨_, _, hrun, grown_alloc w _ _, fun g hg => by simp [blk] at hg; exact .inl (by omega), ?_⟩
        exact fresh_owns w 0 el i.size _ _ _ _ (Nat.zero_le _) (by rw [List.length_append, hLl, hX, Nat.add_mul]) hge hcm' hcur.1 hcur.2
theorem good_appendN {t el : TypeId} {s x : Operand} {s' x' : SC} {av : Av} {nm : Nat} {cs : List SB} {v : SV} {hp' : Hp} (ho : o.op = .call { callee := .builtin .append, args := #[s, x], argTypes := #[t, t] })
    (hu : P.underlying t = some (.slice el)) (h : appendN P av el nm hp s' x' = some (cs, v, hp')) (hc : ∀ s ∈ cs, s.b = true) (hs : CRel hp ν s' (ρ s)) (hx : CRel hp ν x' (ρ x)) (hm : Mem base G w0 w hp ν) : Good P base G w0 hp ν ρ o w v hp' := by
  have run : ∀ v' w', (Builtin.append_ #[t, t] o.type #[ρ s, ρ x]).run P w = .ok v' w' → (execOp ρ o).run P w = .ok (.value v') w' := by
    intro v' w' hr
    unfold execOp
    simp only [ho, resolve, invoke, builtin, Sem.run_bind, Sem.run_pure, Result.andThen_ok, List.map_toArray, List.map_cons, List.map_nil, hr]
  unfold appendN at h
  split at h
  case h_2 => simp at h
  rename_i nt by_ zg z hty hby hz
  obtain ⟨i, hi, hsz⟩ := elNT_some hty
  obtain ⟨i', zv, hi', hzv, hrel⟩ := zeroC_rel hz
  rw [hi] at hi'
  injection hi' with hi'
  subst hi'
  rw [hi] at hby
  simp only [Option.map_some, Option.some.injEq] at hby
  subst hby
  split at h
  case h_2 => simp at h
  rename_i q
  split at h
  case h_2 => simp at h
  rename_i nt' pcs len e' hq hnm
  cases hcond : ((Nat.beq z.length nt.size && Nat.blt 0 i.bytes) && (Nat.beq nt'.size nt.size && Nat.beq e' el)) with
  | false => rw [hcond] at h; simp at h
  | true =>
  rw [hcond] at h
  simp only [cnd_true] at h
  simp only [Bool.and_eq_true] at hcond
  have hzl := Nat.eq_of_beq_eq_true hcond.1.1
  have hb0 : 0 < i.bytes := Nat.le_of_ble_eq_true hcond.1.2
  have hns := Nat.eq_of_beq_eq_true hcond.2.1
  have hee := Nat.eq_of_beq_eq_true hcond.2.2
  subst hee
  have hzs : zv.cells.size = nt.size := by
    have := (hrel hp ν).cells.len
    simp at this
    omega
  split at h
  case h_2 => simp at h
  rename_i m hp1 hels
  have hent := hm.ent q
  rw [hq] at hent
  obtain ⟨fl, hpo, hpc⟩ := hent
  rw [hns] at hpo
  obtain ⟨hm1, hx1, hk1, hml, hn1⟩ := NT.els_rel len hels hpc hm
  obtain ⟨B0, hB0⟩ := hm.nest
  obtain ⟨B, hB, _, hflm⟩ := hn1 B0 hB0
  have hfree1 : hp1 nm = .free := by
    rcases hk1 nm with h1 | ⟨⟨_, _, _, h1⟩, _⟩
    · rw [h1]; exact hnm
    · rw [hnm] at h1; cases h1
  obtain ⟨hqf, hxv, _⟩ := hx
  obtain ⟨A, c, hxs, hcl⟩ : ∃ A c, ρ x = .slice A m.length c ∧ (m.length ≠ 0 → ∃ a, A = some a ∧ ∀ (j : Nat) u, fl[j]? = some u → w.cell? (a.add j) = some u) := by
    rw [hxv, hml]
    rcases hpo.2 with ⟨g1, g2⟩ | ⟨g, cap, cur, g1, _, _, g2, g3, _⟩
    · exact ⟨none, 0, by rw [g1, g2], fun hl => absurd g2 hl⟩
    · refine ⟨_, cap, g1, fun _ => ⟨_, rfl, fun j u hu => ?_⟩⟩
      exact hpo.cells (g := g) (by rw [g1]; rfl) j u hu
  have hXl : fl.length = m.length * nt.size := by rw [hml]; exact hpo.1
  split at h
  · simp only [Option.some.injEq, Prod.mk.injEq] at h
    obtain ⟨rfl, rfl, rfl⟩ := h
    have hs' : ρ s = .slice none 0 0 := hs
    have h0 := hc (.le ((m.length : Int) * i.bytes) 140737488355328) (by simp)
    simp only [SB.b, decide_eq_true_eq] at h0
    obtain ⟨hb1, hb2⟩ := mul_bound h0 hb0
    obtain ⟨v', w', hr, hgr, hsep, how⟩ := append_run (P := P) (w := w) (ty := o.type) hu hi hzv hsz hzs hb0 (World.ownsRow_nil w 0 e' nt.size) (A := A) (k := m.length) (c := c) hXl hpc.cells hcl (by rw [Nat.zero_add]; exact hb1) (by omega)
    rw [Nat.zero_add, List.nil_append] at how
    rw [← hs', ← hxs] at hr
    have hold : ∀ k, k < w.heap.size → w'.heap[k]? = w.heap[k]? := fun k hk => hgr.block k hk (by simp [Value.ownBlock])
    have hmem := hm1.newN (w' := w') hfree1 (e := .nrow false nt m e') (v := v') hgr.os hgr.tape hgr.output hgr.size hold
      (fun g hg => (hsep g hg).resolve_right (fun h1 => by cases h1)) ⟨fl, how⟩ (by simp) ⟨B, hB, fun hBf => ⟨fl, by rw [upd_same]; exact how, hflm.frame (fun b hb => ⟨hb, hBf b hb⟩) nt m fl, fun q => by cases q⟩⟩
    refine ⟨_, _, _, .inl (run _ _ hr), ?_, hmem.1, hx1.trans hmem.2⟩
    obtain ⟨A', c', hv'⟩ : ∃ A' c', v' = .slice A' m.length c' := by
      rcases how.2 with ⟨h1, h2⟩ | ⟨g, cap, cur, h1, _⟩
      · exact ⟨none, 0, by rw [h1, h2]⟩
      · exact ⟨_, _, h1⟩
    exact ⟨_, rfl, by rw [upd_same]; simp, by rw [upd_same], _, _, _, hv'⟩
  · rename_i n
    obtain ⟨hnf, hsv, _⟩ := hs
    split at h
    case h_2 => simp at h
    rename_i gg t2 l e2 hen
    split at h
    case h_2 => simp at h
    rename_i heq _
    subst heq
    cases hc2 : (wrOk av n && Nat.beq e2 e') with
    | false => rw [hc2] at h; simp at h
    | true =>
    rw [hc2] at h
    simp only [cnd_true, Option.some.injEq, Prod.mk.injEq] at h
    obtain ⟨rfl, rfl, rfl⟩ := h
    rw [Bool.and_eq_true] at hc2
    have hee := Nat.eq_of_beq_eq_true hc2.2
    subst hee
    have h0 := hc (.le ((l.length + m.length : Nat) * i.bytes) 140737488355328) (by simp)
    simp only [SB.b, decide_eq_true_eq] at h0
    obtain ⟨hb1, hb2⟩ := mul_bound h0 hb0
    have hen1 : hp1 n = .nrow gg t2 l e2 := by
      rcases hk1 n with h1 | ⟨⟨_, _, _, h1⟩, _⟩
      · rw [h1]; exact hen
      · rw [hen] at h1; cases h1
    have hrl := hB.rel n
    rw [hen1] at hrl
    obtain ⟨fl0, hown, hfl0, _⟩ := hrl
    obtain ⟨v', w', hr, hgr, hsep, how⟩ := append_run (P := P) (w := w) (ty := o.type) hu hi hzv hsz hzs hb0 hown (A := A) (k := m.length) (c := c) hXl hpc.cells hcl hb1 hb2
    rw [← hsv, ← hxs] at hr
    have hmem := hm1.turnN (w' := w') (n := n) (nm := nm) hfree1 (.inr ⟨_, _, _, _, hen1⟩) (e := .nrow false t2 (l ++ m) e2) (v := v') hgr hsep ⟨fl0 ++ fl, by rw [List.length_append]; exact how⟩ (by simp)
      ⟨B, hB, fun hBf => ⟨fl0 ++ fl, by rw [upd_same, List.length_append]; exact how, (hfl0.append hflm).frame (fun b hb => ⟨hb, hBf b hb⟩) t2 (l ++ m) _, fun q => by cases q⟩⟩
    refine ⟨_, _, _, .inl (run _ _ hr), ?_, hmem.1, hx1.trans hmem.2⟩
    obtain ⟨A', c', hv'⟩ : ∃ A' c', v' = .slice A' (l.length + m.length) c' := by
      rcases how.2 with ⟨h1, h2⟩ | ⟨g, cap, cur, h1, _⟩
      · exact ⟨none, 0, by rw [h1, h2]⟩
      · exact ⟨_, _, h1⟩
    exact ⟨_, rfl, by rw [upd_same]; simp, by rw [upd_same], _, _, _, hv'⟩
  · simp at h
theorem good_append {t : TypeId} {s x : Operand} {av : Av} {nm : Nat} {cs : List SB} {v : SV} {hp' : Hp} (ho : o.op = .call { callee := .builtin .append, args := #[s, x], argTypes := #[t, t] })
    (h : appendA P av t nm hp (e s) (e x) = some (cs, v, hp')) (hc : ∀ s ∈ cs, s.b = true) (he : ∀ x, VRel hp ν (e x) (ρ x)) (hm : Mem base G w0 w hp ν) : Good P base G w0 hp ν ρ o w v hp' := by
  have run : ∀ v' w', (Builtin.append_ #[t, t] o.type #[ρ s, ρ x]).run P w = .ok v' w' → (execOp ρ o).run P w = .ok (.value v') w' := by
    intro v' w' hr
    unfold execOp
    simp only [ho, resolve, invoke, builtin, Sem.run_bind, Sem.run_pure, Result.andThen_ok, List.map_toArray, List.map_cons, List.map_nil, hr]
  have hs := he s
  have hx := he x
  unfold appendA at h
  split at h
  case h_2 => simp at h
  rename_i s' x' hes hex
  rw [hes] at hs
  rw [hex] at hx
  obtain ⟨zs, hzs, hs⟩ := hs
  injection hzs with hzs _
  subst hzs
  obtain ⟨zx, hzx, hx⟩ := hx
  injection hzx with hzx _
  subst hzx
  split at h
  case h_2 => simp at h
  rename_i el hus
  have hu := sliceOf_some hus
  split at h
  case h_3 => simp at h
  case h_2 => exact good_appendN ho hu h hc hs hx hm
  rename_i ty by_ zg z hty hby hz
  obtain ⟨i, hi, hsz⟩ := elTy_some hty
  obtain ⟨i', zv, hi', hzv, hrel⟩ := zeroC_rel hz
  rw [hi] at hi'
  injection hi' with hi'
  subst hi'
  rw [hi] at hby
  simp only [Option.map_some, Option.some.injEq] at hby
  subst hby
  split at h
  case h_2 => simp at h
  rename_i m hm' hnm
  have hreads := readL_rel hm' hx hm
  cases hcond : (Nat.beq z.length ty.size && Nat.blt 0 i.bytes) with
  | false => rw [hcond] at h; simp at h
  | true =>
  rw [hcond] at h
  simp only [cnd_true] at h
  rw [Bool.and_eq_true] at hcond
  have hzl := Nat.eq_of_beq_eq_true hcond.1
  have hb0 : 0 < i.bytes := Nat.le_of_ble_eq_true hcond.2
  have hzs : zv.cells.size = ty.size := by
    have := (hrel hp ν).cells.len
    simp at this
    omega
  obtain ⟨A, c, hv, hmc, hmm, hcells⟩ := hreads.out
  have hml : (ty.flat m).length = m.length * i.size := by rw [Ty.flat_len, hsz]
  split at h
  · simp only [Option.some.injEq, Prod.mk.injEq] at h
    obtain ⟨rfl, rfl, rfl⟩ := h
    have hs' : ρ s = .slice none 0 0 := hs
    have h0 := hc (.le ((m.length : Int) * i.bytes) 140737488355328) (by simp)
    simp only [SB.b, decide_eq_true_eq] at h0
    obtain ⟨hb1, hb2⟩ := mul_bound h0 hb0
    have hnil := World.ownsRow_nil w 0 el ty.size
    by_cases hm0 : m = []
    · subst hm0
      have hrun : (Builtin.append_ #[t, t] o.type #[ρ s, ρ x]).run P w = .ok (.slice none 0 0) w := by
        rw [hs', hv]
        cases A with
        | none => exact run_append_none t _ el i ty.size c hu hi _ 0 [] hnil
        | some a => simp [Builtin.append_, run_underlying hu, sizeOf, typeInfo, hi, Builtin.lenOf, Builtin.firstCells, loadCells, loadCellsFrom]
      have hmem := hm.new (w' := w) hnm (e := .row ty [] el) (v := .slice none 0 0) rfl rfl rfl (Nat.le_refl _) (fun _ _ => rfl) (fun g hg => by simp [blk] at hg) ⟨by simp [Ty.flat], .inl ⟨rfl, rfl⟩⟩ (by simp)
      refine ⟨_, _, _, .inl (run _ _ hrun), ?_, hmem.1, hmem.2⟩
      exact ⟨_, rfl, by rw [upd_same]; simp, by rw [upd_same], _, _, _, rfl⟩
    · obtain ⟨a, rfl, hcl⟩ := hcells hm0
      have hpos : 0 < m.length := List.length_pos_iff.2 hm0
      have hrun := run_append_nil (P := P) w t o.type el i zv hu hi hzv a m.length c (ty.flat m) hml hcl hpos (by omega) (by omega)
      rw [← hs', ← hv] at hrun
      have hge := grownCap_ge w m.length 0 el
      have hcm : grownCap w m.length 0 el ≤ maxLen := grownCap_le_maxLen w m.length 0 el (by simp only [maxLen]; omega)
      have hcur := append_cur [] (ty.flat m) zv.cells m.length (grownCap w m.length 0 el) ty.size hzs (by rw [List.nil_append, Ty.flat_len]) hge
      simp only [Array.empty_append, List.nil_append] at hcur
      have hmem := hm.new (w' := w.drew.alloc (.cells ((ty.flat m).toArray ++ Builtin.zeroCells zv.cells (grownCap w m.length 0 el - m.length)) el)) hnm (e := .row ty m el) (v := .slice (some ⟨w.heap.size, 0, none⟩) m.length (grownCap w m.length 0 el)) rfl rfl rfl (by simp) (fun k hk => heap_alloc_old w.drew _ k hk)
        (fun g hg => by simp [blk] at hg; omega) (fresh_owns w 0 el ty.size m.length _ (ty.flat m) _ (Nat.zero_le _) (by rw [Ty.flat_len]) hge hcm hcur.1 hcur.2) (by simp)
      refine ⟨_, _, _, .inl (run _ _ hrun), ?_, hmem.1, hmem.2⟩
      exact ⟨_, rfl, by rw [upd_same]; simp, by rw [upd_same], _, _, _, rfl⟩
  · rename_i n
    obtain ⟨hnf, hsv, _⟩ := hs
    split at h
    case h_2 => simp at h
    rename_i t' l e' hen
    split at h
    case h_2 => simp at h
    rename_i heq _
    subst heq
    cases hc2 : (wrOk av n && (Nat.beq e' el && notIn x' n)) with
    | false => rw [hc2] at h; simp at h
    | true =>
    rw [hc2] at h
    simp only [cnd_true, Option.some.injEq, Prod.mk.injEq] at h
    obtain ⟨rfl, rfl, rfl⟩ := h
    rw [Bool.and_eq_true, Bool.and_eq_true] at hc2
    have hee := Nat.eq_of_beq_eq_true hc2.2.1
    subst hee
    have h0 := hc (.le ((l.length + m.length : Nat) * i.bytes) 140737488355328) (by simp)
    simp only [SB.b, decide_eq_true_eq] at h0
    obtain ⟨hb1, hb2⟩ := mul_bound h0 hb0
    have hent := hm.ent n
    rw [hen] at hent
    have hown : w.ownsRow 0 e' t'.size (ν n) l.length (t'.flat l) := hent
    have done : ∀ (w' : World) (v' : Value), (Builtin.append_ #[t, t] o.type #[ρ s, ρ x]).run P w = .ok v' w' → w.grownBy w' (ν n).ownBlock → (∀ g, blk v' = some g → w.heap.size ≤ g ∨ blk (ν n) = some g) →
        w'.ownsRow 0 e' t'.size v' (l.length + m.length) (t'.flat l ++ t'.flat m) → Good P base G w0 hp ν ρ o w (one (.sl nm)) (upd (upd hp n .dead) nm (.row t' (l ++ m) e')) := by
      intro w' v' hr hg hsep hw'
      have hmem := hm.turn (w' := w') (n := n) (nm := nm) hnm hen (e := .row t' (l ++ m) e') (v := v') hg hsep (by
        show w'.ownsRow 0 e' t'.size v' (l ++ m).length (t'.flat (l ++ m))
        rw [List.length_append, Ty.flat_append]; exact hw') (by simp)
      refine ⟨_, _, _, .inl (run _ _ hr), ?_, hmem.1, hmem.2⟩
      obtain ⟨A', c', hv'⟩ : ∃ A' c', v' = .slice A' (l.length + m.length) c' := by
        rcases hw'.2 with ⟨h1, h2⟩ | ⟨g, cap, cur, h1, _⟩
        · exact ⟨none, 0, by rw [h1, h2]⟩
        · exact ⟨_, _, h1⟩
      exact ⟨_, rfl, by rw [upd_same]; simp, by rw [upd_same], _, _, _, hv'⟩
    by_cases hm0 : m = []
    · subst hm0
      refine done w (ν n) ?_ (grownBy_refl _ _) (fun g hg => .inr hg) (by simpa [Ty.flat] using hown)
      rw [hsv, hv]
      cases A with
      | none => exact run_append_none t _ e' i t'.size c hu hi _ _ _ hown
      | some a =>
        rcases hown.2 with ⟨h1, h2⟩ | ⟨g, cap, cur, h1, _, _, hnc, _⟩
        · rw [h1]; simp [Builtin.append_, run_underlying hu, sizeOf, typeInfo, hi, Builtin.lenOf, Builtin.firstCells, loadCells, loadCellsFrom]
        · rw [h1]; simp [Builtin.append_, run_underlying hu, sizeOf, typeInfo, hi, Builtin.lenOf, Builtin.firstCells, loadCells, loadCellsFrom, hnc, storeCells]
    · obtain ⟨a, rfl, hcl⟩ := hcells hm0
      have hpos : 0 < m.length := List.length_pos_iff.2 hm0
      rcases hown.2 with ⟨h1, h2⟩ | ⟨g, cap, cur, h1, hbg, hheap, hnc, hcm, hcs, htake⟩
      · have hl0 : l = [] := List.length_eq_zero_iff.1 h2
        subst hl0
        simp only [List.length_nil, Nat.zero_add] at hb1 hb2
        have hrun := run_append_nil (P := P) w t o.type e' i zv hu hi hzv a m.length c (t'.flat m) hml hcl hpos (by omega) (by omega)
        rw [← h1, ← hsv, ← hv] at hrun
        have hge := grownCap_ge w m.length 0 e'
        have hcm : grownCap w m.length 0 e' ≤ maxLen := grownCap_le_maxLen w m.length 0 e' (by simp only [maxLen]; omega)
        have hcur := append_cur [] (t'.flat m) zv.cells m.length (grownCap w m.length 0 e') t'.size hzs (by rw [List.nil_append, Ty.flat_len]) hge
        simp only [Array.empty_append, List.nil_append] at hcur
        refine done _ _ hrun (grown_alloc w _ _) (fun g hg => by simp [blk] at hg; exact .inl (by omega)) ?_
        have := fresh_owns w 0 e' t'.size m.length _ (t'.flat m) _ (Nat.zero_le _) (by rw [Ty.flat_len]) hge hcm hcur.1 hcur.2
        simpa [Ty.flat] using this
      · have hownv : w.ownsRow 0 e' t'.size (.slice (some ⟨g, 0, none⟩) l.length cap) l.length (t'.flat l) := by rw [← h1]; exact hown
        by_cases hroom : l.length + m.length ≤ cap
        · obtain ⟨w', hr, how, hgr⟩ := run_append_fits (P := P) w 0 t o.type e' i t'.size hu hi hsz g l.length cap (t'.flat l) hownv a m.length c (t'.flat m) (by rw [Ty.flat_len]) hcl (Ty.flat_one t' m) hroom
          rw [← h1, ← hsv, ← hv] at hr
          refine done w' _ hr (by rw [h1]; exact hgr) (fun g' hg' => .inr (by rw [h1]; exact hg')) how
        · have holds : ∀ j u, (t'.flat l)[j]? = some u → w.cell? ((⟨g, 0, none⟩ : Addr).add j) = some u := hownv.cells (g := g) rfl
          have hrun := run_append_grow (P := P) w t o.type e' i zv hu hi hzv ⟨g, 0, none⟩ l.length cap (t'.flat l) (by rw [Ty.flat_len, hsz]) holds a m.length c (t'.flat m) hml hcl (by omega) (by omega) (growslice_fits (by omega) hb1)
          rw [← h1, ← hsv, ← hv] at hrun
          have hge := grownCap_ge w (l.length + m.length) cap e'
          have hcm' : grownCap w (l.length + m.length) cap e' ≤ maxLen := grownCap_le_maxLen w _ cap e' (by simp only [maxLen]; omega)
          have hcur := append_cur (t'.flat l) (t'.flat m) zv.cells (l.length + m.length) (grownCap w (l.length + m.length) cap e') t'.size hzs (by rw [List.length_append, Ty.flat_len, Ty.flat_len, Nat.add_mul]) hge
          refine done _ _ hrun (grown_alloc w _ _) (fun g hg => by simp [blk] at hg; exact .inl (by omega)) ?_
          exact fresh_owns w 0 e' t'.size _ _ _ _ (Nat.zero_le _) (by rw [List.length_append, Ty.flat_len, Ty.flat_len, Nat.add_mul]) hge hcm' hcur.1 hcur.2
  · simp at h
end
end Go.Sx
/- One operation that calls nobody, whichever. -/
set_option linter.unusedVariables false
set_option linter.unusedSimpArgs false
namespace Go.Sx
open Go.RowKit (wrap64)
section
variable {P : Program} {base : Nat} {G : GS} {w0 w : World} {hp : Hp} {ν : Nat → Value} {ρ : Operand → Value} {e : Operand → SV} {o : Oper}
theorem VRel.ptr {n off : Nat} {v : Value} (h : VRel hp ν (.a false [.ptr n off]) v) : hp n ≠ .free ∧ ∃ g, ν n = .pointer (some ⟨g, 0, none⟩) ∧ v = .pointer (some ⟨g, off, none⟩) := by
  obtain ⟨z, hz, h⟩ := h; injection hz with hz _; subst hz; exact h
theorem VRel.ep {n sz off : Nat} {i : Int} {v : Value} (h : VRel hp ν (.a false [.ep n sz i off]) v) : hp n ≠ .free ∧ ∃ A l c, ν n = .slice (some A) l c ∧ v = .pointer (some (A.add (i.toNat * sz + off))) ∧ 0 ≤ i ∧ i < (l : Int) := by
  obtain ⟨z, hz, h⟩ := h; injection hz with hz _; subst hz; exact h
theorem good_index {t : TypeId} {x i : Operand} {el : TypeId} {n m : Nat} {j : Int} {k : IntKind} {ty : Ty} {l : List ty.T} {e' : TypeId} (ho : o.op = .indexAddr t x i) (hu : sliceOf P t = some el) (hx : VRel hp ν (.a false [.sl n]) (ρ x)) (hi : VRel hp ν (.a false [.int k j]) (ρ i)) (hs : szOf P el = some m)
    (hen : hp n = .row ty l e' ∨ hp n = .ro ty l e' ∨ hp n = .ex ty l e') (h0 : 0 ≤ j) (h1 : j < (l.length : Int)) (hm : Mem base G w0 w hp ν) : Good P base G w0 hp ν ρ o w (one (.ep n m j 0)) hp := by
  obtain ⟨hnf, hxv, _⟩ := hx.sl
  obtain ⟨A, c, hv, _, _, hr⟩ := (ent_reads hen (hm.ent n)).out
  have hl : l ≠ [] := fun e => by subst e; simp at h1; omega
  obtain ⟨a, rfl, _⟩ := hr hl
  have hrun := indexAt_run (P := P) (w := w) (A := a) (L := l.length) (c := c) (k := k) (sliceOf_some hu) hs h0 h1
  rw [← hv, ← hxv, ← hi.int] at hrun
  refine good_same (u := .pointer (some (a.add (j.toNat * m)))) ?_ ⟨_, rfl, hnf, a, _, _, hv, by simp, h0, h1⟩ hm
  unfold execOp
  rw [ho]
  simp [hrun]
theorem good_indexN {t : TypeId} {x i : Operand} {el : TypeId} {n m : Nat} {j : Int} {k : IntKind} {nt : NT} {l : List nt.T} {e' : TypeId} (ho : o.op = .indexAddr t x i) (hu : sliceOf P t = some el) (hx : VRel hp ν (.a false [.sl n]) (ρ x)) (hi : VRel hp ν (.a false [.int k j]) (ρ i)) (hs : szOf P el = some m)
    (hen : hp n = .nro nt l e' ∨ ∃ gg, hp n = .nrow gg nt l e') (h0 : 0 ≤ j) (h1 : j < (l.length : Int)) (hm : Mem base G w0 w hp ν) : Good P base G w0 hp ν ρ o w (one (.ep n m j 0)) hp := by
  obtain ⟨hnf, hxv, _⟩ := hx.sl
  have hl : l ≠ [] := fun e => by subst e; simp at h1; omega
  have hv : ∃ a c, ν n = .slice (some a) l.length c := by
    have hent := hm.ent n
    rcases hen with hh | ⟨gg, hh⟩
    · rw [hh] at hent
      obtain ⟨A, c, fl, h2, _, _, _, h3⟩ := hent
      obtain ⟨a, h4, _⟩ := h3 hl
      exact ⟨a, c, by rw [h2, h4]⟩
    · rw [hh] at hent
      obtain ⟨fl, h2⟩ := hent
      rcases h2.2 with ⟨h3, h4⟩ | ⟨g, cap, cur, h3, _⟩
      · exact absurd (List.length_eq_zero_iff.1 h4) hl
      · exact ⟨_, _, h3⟩
  obtain ⟨a, c, hv⟩ := hv
  have hrun := indexAt_run (P := P) (w := w) (A := a) (L := l.length) (c := c) (k := k) (sliceOf_some hu) hs h0 h1
  rw [← hv, ← hxv, ← hi.int] at hrun
  refine good_same (u := .pointer (some (a.add (j.toNat * m)))) ?_ ⟨_, rfl, hnf, a, _, _, hv, by simp, h0, h1⟩ hm
  unfold execOp
  rw [ho]
  simp [hrun]
theorem byl_len (s : ByteArray) : (byl s).length = s.size := by simp [byl]
/-- The bytes of a text, in memory of their own. -/
theorem good_bytes {src d el : TypeId} {x : Operand} {s : ByteArray} {nm : Nat} (ho : o.op = .convert src d x) (hx : ρ x = .string s) (hs : P.underlying src = some .string) (hd : P.underlying d = some (.slice el)) (hel : P.underlying el = some (.int .u8)) (hn : hp nm = .free) (hlen : s.size ≤ maxLen)
    (hm : Mem base G w0 w hp ν) : Good P base G w0 hp ν ρ o w (one (.sl nm)) (upd hp nm (.ex (.int .u8) (byl s : List Int) el)) := by
  have hrun := run_bytes_of_string (P := P) w src d el s hs hd hel
  have hge := grownCap_ge w s.size 0 el
  generalize grownCap w s.size 0 el = cap at hrun hge
  have hvs : (bytesRow s cap).size = cap := by
    unfold bytesRow
    simp
    have : s.data.size = s.size := rfl
    omega
  have hbl : (byl s).length = s.size := byl_len s
  have hmem := hm.new (w' := w.drew.alloc (.cells (bytesRow s cap) el ((bytesRow s cap).size, (bytesRow s cap).size + 1))) hn (e := .ex (.int .u8) (byl s : List Int) el) (v := .slice (some ⟨w.heap.size, 0, none⟩) s.size cap) rfl rfl rfl (by simp) (fun k hk => heap_alloc_old w.drew _ k hk)
    (fun g hg => by simp [blk] at hg; omega) (.inr ⟨w.heap.size, 0, cap, _, el, _, congrArg (fun q => Value.slice (some ⟨w.heap.size, 0, none⟩) q cap) hbl.symm, Nat.le_trans (Nat.le_of_eq hbl) hge, Nat.le_trans (Nat.le_of_eq hbl) hlen, heap_alloc_new w.drew _, ?_, .inr (Nat.le_refl _), fun j u hu => ?_⟩) (by simp)
  · refine ⟨.slice (some ⟨w.heap.size, 0, none⟩) s.size cap, _, _, .inl ?_, ?_, hmem.1, hmem.2⟩
    · unfold execOp
      rw [ho]
      simp only [Sem.run_bind, hx, hrun, Result.andThen_ok]
      rfl
    · exact ⟨_, rfl, by rw [upd_same]; simp, by rw [upd_same], _, _, _, rfl⟩
  · rw [hvs]
    exact Nat.le_trans (Nat.le_of_eq (by rw [Nat.zero_add]; exact (Nat.mul_one _).trans hbl)) hge
  · have e := flat_u8 (byl s)
    have hu : ((Ty.int .u8).flat (byl s : List Int))[j]? = some u := hu
    rw [e, List.getElem?_map] at hu
    unfold byl at hu
    rw [List.getElem?_map] at hu
    rw [Nat.zero_add]
    unfold bytesRow
    cases hb : s.data.toList[j]? with
    | none => rw [hb] at hu; simp at hu
    | some y =>
      rw [hb] at hu
      simp only [Option.map_some, Option.some.injEq] at hu
      have hj : j < s.data.size := by
        have := (List.getElem?_eq_some_iff.1 hb).1
        simpa using this
      rw [Array.getElem?_append_left (by simpa using hj)]
      have hb2 : s.data[j]? = some y := by simpa using hb
      simp [hb2, hu]
theorem opA_sound {av : Av} {nm : Nat} {cs : List SB} {v : SV} {hp' : Hp} (h : opA P av o.op e nm hp = some (cs, v, hp')) (hc : ∀ s ∈ cs, s.b = true) (he : ∀ x, VRel hp ν (e x) (ρ x)) (hm : Mem base G w0 w hp ν) :
    Good P base G w0 hp ν ρ o w v hp' := by
  generalize ho : o.op = op at h
  cases op
  case move x =>
    simp only [opA, Option.some.injEq, Prod.mk.injEq] at h
    obtain ⟨rfl, rfl, rfl⟩ := h
    exact good_same (by unfold execOp; rw [ho]; rfl) (he x) hm
  case assign x =>
    simp only [opA, Option.some.injEq, Prod.mk.injEq] at h
    obtain ⟨rfl, rfl, rfl⟩ := h
    exact good_same (by unfold execOp; rw [ho]; rfl) (he x) hm
  case alloc t =>
    simp only [opA] at h
    split at h
    · rename_i g cs' hz
      obtain ⟨hn, rfl, rfl, rfl⟩ := mk_some h
      exact good_alloc ho hz hn hm
    · simp at h
  case box t x =>
    simp only [opA] at h
    split at h
    · rename_i g cs' hx
      obtain ⟨hn, rfl, rfl, rfl⟩ := mk_some h
      have := he x
      rw [hx] at this
      exact good_boxed ho this hn hm
    · simp at h
  case build t ps =>
    simp only [opA] at h
    split at h
    · rename_i z hz
      split at h
      · rename_i pl hpl
        split at h
        · rename_i cs' hf
          simp only [Option.some.injEq, Prod.mk.injEq] at h
          obtain ⟨rfl, rfl, rfl⟩ := h
          exact good_build ho hz hpl hf he hm
        · simp at h
      · simp at h
    · simp at h
  case buildSlice t len ps =>
    simp only [opA] at h
    split at h
    · rename_i el hu
      split at h
      · rename_i ty hty
        split at h
        · rename_i xs hr
          split at h
          · rename_i zg hz
            cases hb : (Nat.beq xs.length len && Nat.ble (len * ty.size) 16777216) with
            | false => rw [hb] at h; simp at h
            | true =>
              rw [hb] at h
              rw [Bool.and_eq_true] at hb
              obtain ⟨hn, rfl, rfl, rfl⟩ := mk_some h
              exact good_rowS ho hu hty hr hz (Nat.eq_of_beq_eq_true hb.1) (Nat.le_of_ble_eq_true hb.2) hn he hm
          · simp at h
        · simp at h
      · split at h
        · rename_i nt hnt
          split at h
          · rename_i hps
            split at h
            · rename_i zg hz
              cases hb : Nat.beq len 0 with
              | false => rw [hb] at h; simp at h
              | true =>
                rw [hb] at h
                obtain ⟨hn, rfl, rfl, rfl⟩ := mk_some h
                exact good_rowN0 ho hu hnt hps hz (Nat.eq_of_beq_eq_true hb) hn he hm
            · simp at h
          · split at h
            · rename_i xs hr
              split at h
              · rename_i zg hz
                cases hb : (Nat.beq xs.length (len * nt.size) && (Nat.beq ps.size len && Nat.ble (len * nt.size) 16777216)) with
                | false => rw [hb] at h; simp at h
                | true =>
                  rw [hb] at h
                  rw [Bool.and_eq_true, Bool.and_eq_true] at hb
                  obtain ⟨hn, rfl, rfl, rfl⟩ := mk_some h
                  exact good_rowN ho hu hnt hr hz (Nat.eq_of_beq_eq_true hb.2.1) (Nat.le_of_ble_eq_true hb.2.2) hn he hm
              · simp at h
            · simp at h
        · simp at h
    · simp at h
  case load t x =>
    simp only [opA] at h
    exact (good_load ho h (he x) hm).1
  case store t x y =>
    simp only [opA] at h
    exact (good_store ho h he hm).1
  case nilCheck x =>
    simp only [opA] at h
    split at h
    · rename_i n off hx
      simp only [Option.some.injEq, Prod.mk.injEq] at h
      obtain ⟨rfl, rfl, rfl⟩ := h
      have := he x
      rw [hx] at this
      obtain ⟨hnf, g, hg, hxv⟩ := this.ptr
      refine good_same (u := .pointer (some ⟨g, off, none⟩)) ?_ ⟨_, rfl, hnf, g, hg, rfl⟩ hm
      unfold execOp
      rw [ho]
      simp only [hxv]
      rfl
    · simp at h
  case binOp op t x y t' =>
    simp only [opA] at h
    split at h
    · rename_i c v' hb
      simp only [Option.some.injEq, Prod.mk.injEq] at h
      obtain ⟨rfl, rfl, rfl⟩ := h
      exact good_bin ho hb hc he hm
    · split at h
      · rename_i s hs
        simp only [Option.some.injEq, Prod.mk.injEq] at h
        obtain ⟨rfl, rfl, rfl⟩ := h
        exact (good_eq ho (by assumption) he hm).1 rfl
      · rename_i s hs
        simp only [Option.some.injEq, Prod.mk.injEq] at h
        obtain ⟨rfl, rfl, rfl⟩ := h
        exact (good_eq ho (by assumption) he hm).2 rfl
      · simp at h
  case unOp op t x =>
    simp only [opA] at h
    split at h
    · rename_i v' hv
      simp only [Option.some.injEq, Prod.mk.injEq] at h
      obtain ⟨rfl, rfl, rfl⟩ := h
      exact good_un ho hv he hm
    · simp at h
  case convert s d x =>
    simp only [opA] at h
    split at h
    · rename_i k0 k k1 n hs hd hx
      simp only [Option.some.injEq, Prod.mk.injEq] at h
      obtain ⟨rfl, rfl, rfl⟩ := h
      have := he x
      rw [hx] at this
      refine good_same (u := .int k (wr k n)) ?_ ⟨_, rfl, rfl⟩ hm
      unfold execOp
      rw [ho]
      simp [convert, run_underlying hs, run_underlying hd, this.int, Conv.intToInt, wr_eq]
    · rename_i el x' hs hd hx
      split at h
      · rename_i hel
        split at h
        · rename_i l hl
          simp only [Option.some.injEq, Prod.mk.injEq] at h
          obtain ⟨rfl, rfl, rfl⟩ := h
          have := he x
          rw [hx] at this
          obtain ⟨z, hz, hr⟩ := this
          injection hz with hz _
          subst hz
          have hrd := readL_rel hl hr hm
          refine good_same (u := .string (bstr l)) ?_ ⟨_, rfl, rfl⟩ hm
          obtain ⟨A, c, hv, _⟩ := hrd.out
          have hb := run_bstr (P := P) (w := w) hrd
          have hcv := run_convert_bytes_string (P := P) w s d el A l.length c hs hel hd
          unfold execOp
          rw [ho]
          simp only [Sem.run_bind]
          rw [hv] at hb ⊢
          rw [hcv, hb]
          rfl
        · simp at h
      · simp at h
    · rename_i el s' hs hd hx
      split at h
      case h_2 => simp at h
      rename_i hel hfr
      simp only [Option.some.injEq, Prod.mk.injEq] at h
      obtain ⟨rfl, rfl, rfl⟩ := h
      have hlen := hc (.le (s'.size : Int) 9223372036854775807) (by simp)
      simp only [SB.b, decide_eq_true_eq] at hlen
      have hxs := he x
      rw [hx] at hxs
      have hxv := hxs.str
      exact good_bytes ho hxv hs hd hel hfr (by simp only [maxLen]; omega) hm
    · simp at h
  case extract x i =>
    simp only [opA] at h
    split at h
    · rename_i xs hx
      split at h
      · rename_i g cs' hg
        simp only [Option.some.injEq, Prod.mk.injEq] at h
        obtain ⟨rfl, rfl, rfl⟩ := h
        have := he x
        rw [hx] at this
        obtain ⟨vs, hv, hr⟩ := this
        obtain ⟨u, hu, hua⟩ := hr.get hg
        refine good_same (u := u) ?_ hua hm
        have hu' : vs[i]? = some u := by simpa using hu
        unfold execOp
        rw [ho]
        simp [hv, Instr.extract, hu']
      · simp at h
    · simp at h
  case field t x f =>
    simp only [opA] at h
    split at h
    · rename_i cs' off ft hx hf
      split at h
      · rename_i v' hv
        simp only [Option.some.injEq, Prod.mk.injEq] at h
        obtain ⟨rfl, rfl, rfl⟩ := h
        have := he x
        rw [hx] at this
        obtain ⟨vs, hxv, hr⟩ := this
        obtain ⟨fs, fd, hu, hfd, rfl, rfl⟩ := fieldOf_some hf
        obtain ⟨u, hpu, hvu⟩ := part_run (P := P) (w := w) hv hr
        refine good_same (u := u) ?_ hvu hm
        unfold execOp
        rw [ho]
        simp [hxv, Instr.field, run_underlying hu, hfd, asAgg, hpu]
      · simp at h
    · simp at h
  case fieldAddr t x f =>
    simp only [opA] at h
    split at h
    · rename_i off ft hf
      split at h
      · rename_i n hs
        split at h
        · rename_i n' o' hx
          simp only [Option.some.injEq, Prod.mk.injEq] at h
          obtain ⟨rfl, rfl, rfl⟩ := h
          have := he x
          rw [hx] at this
          obtain ⟨hnf, g, hg, hxv⟩ := this.ptr
          have hrun := fieldAt_run (P := P) (w := w) (a := ⟨g, o', none⟩) hf hs
          refine good_same (u := .pointer (some ⟨g, o' + off, none⟩)) ?_ ⟨_, rfl, hnf, g, hg, rfl⟩ hm
          unfold execOp
          rw [ho]
          simp [hxv, hrun, Addr.add_mid]
        · rename_i n' sz i o' hx
          simp only [Option.some.injEq, Prod.mk.injEq] at h
          obtain ⟨rfl, rfl, rfl⟩ := h
          have := he x
          rw [hx] at this
          obtain ⟨hnf, A, L, c, hg, hxv, h0, h1⟩ := this.ep
          have hrun := fieldAt_run (P := P) (w := w) (a := A.add (i.toNat * sz + o')) hf hs
          refine good_same (u := .pointer (some (A.add (i.toNat * sz + (o' + off))))) ?_ ⟨_, rfl, hnf, A, L, c, hg, rfl, h0, h1⟩ hm
          unfold execOp
          rw [ho]
          simp only [hxv, Sem.run_bind, hrun, Result.andThen_ok, Addr.add_add, Nat.add_assoc]
          rfl
        · simp at h
      · simp at h
    · simp at h
  case index t x i =>
    simp only [opA] at h
    split at h
    · rename_i s k n hu hx hi
      simp only [Option.some.injEq, Prod.mk.injEq] at h
      obtain ⟨rfl, rfl, rfl⟩ := h
      have h1 := he x
      rw [hx] at h1
      have h2 := he i
      rw [hi] at h2
      have c1 := hc (.le 0 n) (by simp)
      have c2 := hc (.lt n (s.size : Int)) (by simp)
      simp only [SB.b, decide_eq_true_eq] at c1 c2
      have hlt : n.toNat < s.size := by omega
      refine good_same (u := .int .u8 (byt s n)) ?_ ⟨_, rfl, rfl⟩ hm
      unfold execOp
      rw [ho]
      have hget : s[n.toNat]? = some (s[n.toNat]'hlt) := getElem?_pos s n.toNat hlt
      simp [h1.str, h2.int, Instr.index, asIntOf, run_underlying hu, c1, hget, byt, hlt]
    · simp at h
  case indexAddr t x i =>
    simp only [opA] at h
    split at h
    · rename_i el n k j hu hx hi
      split at h
      · rename_i m hs
        have h1 := he x
        rw [hx] at h1
        have h2 := he i
        rw [hi] at h2
        split at h
        · rename_i ty l e' hen
          cases hb : (rdOk av n && Nat.beq m ty.size) with
          | false => rw [hb] at h; simp at h
          | true =>
            rw [hb] at h
            simp only [cnd_true, Option.some.injEq, Prod.mk.injEq] at h
            obtain ⟨rfl, rfl, rfl⟩ := h
            have c1 := hc (.le 0 j) (by simp)
            have c2 := hc (.lt j (l.length : Int)) (by simp)
            simp only [SB.b, decide_eq_true_eq] at c1 c2
            exact good_index ho hu h1 h2 hs (.inl hen) c1 c2 hm
        · rename_i ty l e' hen
          cases hb : Nat.beq m ty.size with
          | false => rw [hb] at h; simp at h
          | true =>
            rw [hb] at h
            simp only [cnd_true, Option.some.injEq, Prod.mk.injEq] at h
            obtain ⟨rfl, rfl, rfl⟩ := h
            have c1 := hc (.le 0 j) (by simp)
            have c2 := hc (.lt j (l.length : Int)) (by simp)
            simp only [SB.b, decide_eq_true_eq] at c1 c2
            exact good_index ho hu h1 h2 hs (.inr (.inl hen)) c1 c2 hm
        · rename_i ty l e' hen
          cases hb : (rdOk av n && Nat.beq m ty.size) with
          | false => rw [hb] at h; simp at h
          | true =>
            rw [hb] at h
            simp only [cnd_true, Option.some.injEq, Prod.mk.injEq] at h
            obtain ⟨rfl, rfl, rfl⟩ := h
            have c1 := hc (.le 0 j) (by simp)
            have c2 := hc (.lt j (l.length : Int)) (by simp)
            simp only [SB.b, decide_eq_true_eq] at c1 c2
            exact good_index ho hu h1 h2 hs (.inr (.inr hen)) c1 c2 hm
        · rename_i nt l e' hen
          cases hb : Nat.beq m nt.size with
          | false => rw [hb] at h; simp at h
          | true =>
            rw [hb] at h
            simp only [cnd_true, Option.some.injEq, Prod.mk.injEq] at h
            obtain ⟨rfl, rfl, rfl⟩ := h
            have c1 := hc (.le 0 j) (by simp)
            have c2 := hc (.lt j (l.length : Int)) (by simp)
            simp only [SB.b, decide_eq_true_eq] at c1 c2
            exact good_indexN ho hu h1 h2 hs (.inl hen) c1 c2 hm
        · rename_i nt l e' hen
          cases hb : (rdOk av n && Nat.beq m nt.size) with
          | false => rw [hb] at h; simp at h
          | true =>
            rw [hb] at h
            simp only [cnd_true, Option.some.injEq, Prod.mk.injEq] at h
            obtain ⟨rfl, rfl, rfl⟩ := h
            have c1 := hc (.le 0 j) (by simp)
            have c2 := hc (.lt j (l.length : Int)) (by simp)
            simp only [SB.b, decide_eq_true_eq] at c1 c2
            exact good_indexN ho hu h1 h2 hs (.inr ⟨_, hen⟩) c1 c2 hm
        · simp at h
      · simp at h
    · simp at h
  case slice t x lo hi mx =>
    cases mx with
    | some y => simp [opA] at h
    | none =>
      simp only [opA] at h
      exact good_slice ho h hc he hm
  case makeSlice t n c =>
    simp only [opA] at h
    split at h
    · rename_i ka a kb b hn hcc
      have h1 := he n
      rw [hn] at h1
      have h2 := he c
      rw [hcc] at h2
      split at h
      · rename_i el hu
        split at h
        · rename_i ty by_ hty hby
          split at h
          · rename_i hf
            split at h
            · rename_i zg z hz
              split at h
              · rename_i hzE
                cases hb : Nat.blt 0 by_ with
                | false => rw [hb] at h; simp at h
                | true =>
                  rw [hb] at h
                  simp only [cnd_true, Option.some.injEq, Prod.mk.injEq] at h
                  obtain ⟨rfl, rfl, rfl⟩ := h
                  have c1 := hc (.eq a b) (by simp)
                  have c2 := hc (.le 0 a) (by simp)
                  have c3 := hc (.le (a * by_) 140737488355328) (by simp)
                  simp only [SB.b, decide_eq_true_eq] at c1 c2 c3
                  exact good_make ho h1 h2 hu hty hby hf hz hzE hb c1 c2 c3 hm
              · simp at h
            · simp at h
          · simp at h
        · rename_i by_ hty hby
          split at h
          · rename_i hf
            split at h
            · rename_i nt hnt
              split at h
              · rename_i zg z hz
                split at h
                · rename_i hzE
                  cases hb : Nat.blt 0 by_ with
                  | false => rw [hb] at h; simp at h
                  | true =>
                    rw [hb] at h
                    simp only [cnd_true, Option.some.injEq, Prod.mk.injEq] at h
                    obtain ⟨rfl, rfl, rfl⟩ := h
                    have c1 := hc (.eq a b) (by simp)
                    have c2 := hc (.le 0 a) (by simp)
                    have c3 := hc (.le (a * by_) 140737488355328) (by simp)
                    simp only [SB.b, decide_eq_true_eq] at c1 c2 c3
                    exact good_makeN ho h1 h2 hu hnt hby hf hz hzE hb c1 c2 c3 hm
                · simp at h
              · simp at h
            · simp at h
          · simp at h
        · simp at h
      · simp at h
    · simp at h
  case call c =>
    obtain ⟨callee, as, ts⟩ := c
    cases callee with
    | value f => simp [opA] at h
    | invoke r m => simp [opA] at h
    | builtin b =>
      simp only [opA] at h
      have run : ∀ u, (∀ (w' : World), True) → ((builtin b ts o.type (as.map fun | .const _ => true | _ => false) (as.map ρ)).run P w = .ok (.value u) w) → (execOp ρ o).run P w = .ok (.value u) w := by
        intro u _ hr
        unfold execOp
        simp only [ho, resolve, invoke, Sem.run_bind, Sem.run_pure, Result.andThen_ok]
        exact hr
      have hargs : ∀ (j : Nat) (x : SV), (as.toList.map e)[j]? = some x → ∃ v, (as.map ρ).toList[j]? = some v ∧ VRel hp ν x v := by
        intro j x hj
        simp only [List.getElem?_map, Option.map_eq_some_iff] at hj
        obtain ⟨p, hp1, rfl⟩ := hj
        exact ⟨ρ p, by simp only [Array.toList_map, List.getElem?_map, hp1, Option.map_some], he p⟩
      unfold builtinA at h
      split at h
      · rename_i x hx
        split at h
        case h_2 => simp at h
        rename_i t ht
        split at h
        case h_2 => simp at h
        rename_i n hn
        simp only [Option.some.injEq, Prod.mk.injEq] at h
        obtain ⟨rfl, rfl, rfl⟩ := h
        obtain ⟨u, hu, hux⟩ := hargs 0 x (by rw [hx]; rfl)
        have hlen : as.size = 1 := by have := congrArg List.length hx; simpa using this
        have has : as.map ρ = #[u] := by
          apply Array.ext'
          have hl : (as.map ρ).toList.length = 1 := by simp [hlen]
          match hq : (as.map ρ).toList, hl with
          | [a], _ => rw [hq] at hu; simp at hu; rw [hu]
        have hts : ts = #[t] := Array.ext' ht
        refine good_same (u := .int .i64 n) (run _ (fun _ => trivial) ?_) ⟨_, rfl, rfl⟩ hm
        have := lenA_run (P := P) (w := w) hn hux hm o.type
        rw [has, hts]
        simp [builtin, this]
      · rename_i k a r hx
        split at h
        case h_2 => simp at h
        rename_i n hn
        simp only [Option.some.injEq, Prod.mk.injEq] at h
        obtain ⟨rfl, rfl, rfl⟩ := h
        refine good_same (u := .int k n) (run _ (fun _ => trivial) ?_) ⟨_, rfl, rfl⟩ hm
        obtain ⟨u, hu, hux⟩ := hargs 0 (.a false [.int k a]) (by rw [hx]; rfl)
        have hu2 := hux.int
        subst hu2
        obtain ⟨vs, hvs⟩ : ∃ vs, (as.map ρ).toList = .int k a :: vs := by
          match hq : (as.map ρ).toList with
          | [] => rw [hq] at hu; simp at hu
          | y :: ys => rw [hq] at hu; simp at hu; exact ⟨ys, by rw [hu]⟩
        have hl : r.length = vs.length := by
          have h1 := congrArg List.length hx
          have h2 := congrArg List.length hvs
          simp at h1 h2
          omega
        have hf := foldI_run (P := P) (w := w) (hp := hp) (ν := ν) (f := mn) (g := Builtin.min2) (k := k) (fun a b => rfl) r vs a n hn hl (fun j x hj => by
          obtain ⟨u, hu, hux⟩ := hargs (j + 1) x (by rw [hx]; simpa using hj)
          exact ⟨u, by rw [hvs] at hu; simpa using hu, hux⟩)
        simp only [builtin, Builtin.min_, hvs, Sem.run_bind, hf, Result.andThen_ok]
        rfl
      · rename_i k a r hx
        split at h
        case h_2 => simp at h
        rename_i n hn
        simp only [Option.some.injEq, Prod.mk.injEq] at h
        obtain ⟨rfl, rfl, rfl⟩ := h
        refine good_same (u := .int k n) (run _ (fun _ => trivial) ?_) ⟨_, rfl, rfl⟩ hm
        obtain ⟨u, hu, hux⟩ := hargs 0 (.a false [.int k a]) (by rw [hx]; rfl)
        have hu2 := hux.int
        subst hu2
        obtain ⟨vs, hvs⟩ : ∃ vs, (as.map ρ).toList = .int k a :: vs := by
          match hq : (as.map ρ).toList with
          | [] => rw [hq] at hu; simp at hu
          | y :: ys => rw [hq] at hu; simp at hu; exact ⟨ys, by rw [hu]⟩
        have hl : r.length = vs.length := by
          have h1 := congrArg List.length hx
          have h2 := congrArg List.length hvs
          simp at h1 h2
          omega
        have hf := foldI_run (P := P) (w := w) (hp := hp) (ν := ν) (f := mx) (g := Builtin.max2) (k := k) (fun a b => rfl) r vs a n hn hl (fun j x hj => by
          obtain ⟨u, hu, hux⟩ := hargs (j + 1) x (by rw [hx]; simpa using hj)
          exact ⟨u, by rw [hvs] at hu; simpa using hu, hux⟩)
        simp only [builtin, Builtin.max_, hvs, Sem.run_bind, hf, Result.andThen_ok]
        rfl
      · rename_i s x hx
        split at h
        case h_2 => simp at h
        rename_i t t' ht
        cases hb : Nat.beq t t' with
        | false => rw [hb] at h; simp at h
        | true =>
          rw [hb] at h
          simp only [cnd_true] at h
          have htt := Nat.eq_of_beq_eq_true hb
          subst htt
          have hts : ts = #[t, t] := Array.ext' ht
          obtain ⟨ps, px, has, rfl, rfl⟩ : ∃ ps px, as.toList = [ps, px] ∧ s = e ps ∧ x = e px := by
            match hq : as.toList with
            | [a, b] => rw [hq] at hx; simp at hx; exact ⟨a, b, rfl, hx.1.symm, hx.2.symm⟩
            | [] => rw [hq] at hx; simp at hx
            | [a] => rw [hq] at hx; simp at hx
            | a :: b :: c :: r => rw [hq] at hx; simp at hx
          have has' : as = #[ps, px] := Array.ext' has
          subst hts has'
          exact good_append ho h hc he hm
      · simp at h
  all_goals (simp [opA] at h)
end
end Go.Sx
/- The continuation style and the direct style tell the same. -/
set_option linter.unusedVariables false
set_option linter.unusedSimpArgs false
namespace Go.Sx
section
variable {R S : Type}
theorem cond_bind {s : SB} {x y : Option R} {f : R → Option S} : (s.cond x y).bind f = s.cond (x.bind f) (y.bind f) := by
  rw [cond_b, cond_b]; split <;> rfl
theorem chks_bind : ∀ (cs : List SB) (x : Option R) (f : R → Option S), (chks cs x).bind f = chks cs (x.bind f)
  | [], _, _ => rfl
  | s :: r, x, f => by
    simp only [chks]
    rw [cond_bind, chks_bind r x f]
    rfl
theorem chks_some : ∀ {cs : List SB} {x : Option R} {r : R}, chks cs x = some r → (∀ s ∈ cs, s.b = true) ∧ x = some r
  | [], _, _, h => ⟨fun _ hs => (by cases hs), h⟩
  | s :: q, x, r, h => by
    simp only [chks, cond_b] at h
    split at h
    · rename_i hs
      obtain ⟨h1, h2⟩ := chks_some h
      exact ⟨fun t ht => (by
        cases ht with
        | head => exact hs
        | tail _ ht => exact h1 t ht), h2⟩
    · cases h
/-- What is known is so. -/
def KnOK (kn : Kn) (σ : St) : Prop := ∀ t b s, kn? kn t = some b → σ.tm t = .a false [.bool s] → s.b = b
theorem KnOK.nil (σ : St) : KnOK [] σ := fun _ _ _ h _ => by cases h
theorem beq_ne {a b : Nat} (h : a ≠ b) : Nat.beq a b = false := by
  cases hb : Nat.beq a b with
  | false => rfl
  | true => exact absurd (Nat.eq_of_beq_eq_true hb) h
theorem beq_self' (a : Nat) : Nat.beq a a = true := Nat.beq_refl a
theorem knOut_other {t d : Nat} (h : t ≠ d) : ∀ kn : Kn, kn? (knOut kn d) t = kn? kn t
  | [] => rfl
  | (e, b) :: r => by
    simp only [knOut]
    by_cases hed : e = d
    · subst hed
      rw [beq_self', cnd_true, knOut_other h r]
      simp only [kn?]
      rw [beq_ne (fun e => h e.symm), cnd_false]
    · rw [beq_ne hed, cnd_false]
      simp only [kn?]
      rw [knOut_other h r]
theorem knOut_same (d : Nat) : ∀ kn : Kn, kn? (knOut kn d) d = none
  | [] => rfl
  | (e, b) :: r => by
    simp only [knOut]
    by_cases hed : e = d
    · subst hed; rw [beq_self', cnd_true, knOut_same e r]
    · rw [beq_ne hed, cnd_false]
      simp only [kn?]
      rw [beq_ne hed, cnd_false, knOut_same d r]
theorem askK_inv {kn : Kn} {x : Operand} {σ : St} {s : SB} {K : Kn → Bool → Option R} {r : R} (h : askK kn x s K = some r) (hk : KnOK kn σ) (hx : ∀ t, x = .tmp t → σ.tm t = .a false [.bool s]) :
    ∃ kn', K kn' s.b = some r ∧ KnOK kn' σ := by
  unfold askK at h
  split at h
  · rename_i t
    split at h
    · rename_i b hb
      have := hk t b s hb (hx t rfl)
      exact ⟨kn, by rw [this]; exact h, hk⟩
    · rw [cond_b] at h
      have key : ∀ b, s.b = b → KnOK ((t, b) :: kn) σ := by
        intro b hb t' b' s' h1 h2
        simp only [kn?] at h1
        by_cases ht : t = t'
        · subst ht
          rw [beq_self', cnd_true] at h1
          injection h1 with h1
          subst h1
          rw [hx t rfl] at h2
          injection h2 with _ h2
          injection h2 with h2 _
          injection h2 with h2
          subst h2
          exact hb
        · rw [beq_ne ht, cnd_false] at h1
          exact hk t' b' s' h1 h2
      split at h
      · rename_i hs; exact ⟨_, by rw [hs]; exact h, key true hs⟩
      · rename_i hs
        have hs' : s.b = false := by simpa using hs
        exact ⟨_, by rw [hs']; exact h, key false hs'⟩
  · rw [cond_b] at h
    split at h
    · rename_i hs; exact ⟨kn, by rw [hs]; exact h, hk⟩
    · rename_i hs
      have hs' : s.b = false := by simpa using hs
      exact ⟨kn, by rw [hs']; exact h, hk⟩
theorem callK_inv {con : Con} {av : Av} {k : Nat} {args : List SV} {nm : Nat} {hp : Hp} {K : SV → Hp → Option R} {r : R} (h : callK con av k args nm hp K = some r) :
    ∃ x b, mAs hp con.ak args = some x ∧ con.fn k x = some b ∧ (((hands hp con.ak args).all (wrOk av) && apN hp con.ak args) && (freeN hp nm (OK.news con.rk) && Nat.ble (OK.news con.rk) 16)) = true ∧
      K (resV con.nres (inOs args con.nres (ptrs con.ak args) con.rk b nm (relH con.ak args hp)).1) (inOs args con.nres (ptrs con.ak args) con.rk b nm (relH con.ak args hp)).2 = some r := by
  unfold callK at h
  split at h
  · cases h
  · rename_i x hx
    cases hc : (((hands hp con.ak args).all (wrOk av) && apN hp con.ak args) && (freeN hp nm (OK.news con.rk) && Nat.ble (OK.news con.rk) 16)) with
    | false => rw [hc] at h; simp at h
    | true =>
      rw [hc] at h
      simp only [cnd_true] at h
      cases hf : con.fn k x with
      | none => rw [hf] at h; simp at h
      | some b =>
        rw [hf] at h
        exact ⟨x, b, hx, hf, rfl, h⟩
/-- The three ways of one operation. -/
inductive Ways (C : Ctx) (av : Av) (o : Oper) (nm : Nat) (σ : St) : SV → Hp → Prop
  | pick (c a b : Operand) (s : SB) (ho : o.op = .pick c a b) (hs : ev σ.tm c = .a false [.bool s]) : Ways C av o nm σ (if s.b = true then ev σ.tm a else ev σ.tm b) σ.hp
  | call (f : FuncId) (as : Array Operand) (ts : Array TypeId) (con : Con) (x : AKs con.ak) (b : OKs con.rk) (ho : o.op = .call { callee := .value (.func f), args := as, argTypes := ts }) (hG : C.G f = some con)
      (hx : mAs σ.hp con.ak (as.toList.map (ev σ.tm)) = some x) (hf : con.fn C.k x = some b)
      (hc : (((hands σ.hp con.ak (as.toList.map (ev σ.tm))).all (wrOk av) && apN σ.hp con.ak (as.toList.map (ev σ.tm))) && (freeN σ.hp nm (OK.news con.rk) && Nat.ble (OK.news con.rk) 16)) = true) :
      Ways C av o nm σ (resV con.nres (inOs (as.toList.map (ev σ.tm)) con.nres (ptrs con.ak (as.toList.map (ev σ.tm))) con.rk b nm (relH con.ak (as.toList.map (ev σ.tm)) σ.hp)).1) (inOs (as.toList.map (ev σ.tm)) con.nres (ptrs con.ak (as.toList.map (ev σ.tm))) con.rk b nm (relH con.ak (as.toList.map (ev σ.tm)) σ.hp)).2
  | op (cs : List SB) (v : SV) (hp : Hp) (ho : opA C.P av o.op (ev σ.tm) nm σ.hp = some (cs, v, hp)) (hc : ∀ s ∈ cs, s.b = true) : Ways C av o nm σ v hp
theorem execK_inv {C : Ctx} {av : Av} {o : Oper} {nm : Nat} {kn : Kn} {σ : St} {K : Kn → St → Option R} {r : R} (h : execK C av o nm kn σ K = some r) (hk : KnOK kn σ) :
    ∃ v hp kn', Ways C av o nm σ v hp ∧ putK C.N kn' σ hp o.dst v K = some r ∧ KnOK kn' σ := by
  unfold execK at h
  split at h
  · rename_i c a b ho
    split at h
    · rename_i s hs
      obtain ⟨kn', h1, h2⟩ := askK_inv (σ := σ) h hk (fun t ht => by subst ht; exact hs)
      refine ⟨_, _, kn', .pick c a b s ho hs, ?_, h2⟩
      cases hb : s.b with
      | true => rw [hb] at h1; simpa using h1
      | false => rw [hb] at h1; simpa using h1
    · cases h
  · rename_i f as ts ho
    split at h
    · rename_i con hG
      obtain ⟨x, b, hx, hf, hc, h1⟩ := callK_inv h
      exact ⟨_, _, kn, .call f as ts con x b ho hG hx hf hc, h1, hk⟩
    · cases h
  · split at h
    · rename_i cs v hp ho
      obtain ⟨h1, h2⟩ := chks_some h
      exact ⟨_, _, kn, .op cs v hp ho h1, h2, hk⟩
    · cases h
def putT (tm : Nat → SV) (dst : Option Tmp) (v : SV) : Nat → SV :=
  match dst with
  | some d => upd tm d v
  | none => tm
/-- One operation of a region, in the direct style. -/
inductive Step (C : Ctx) (av : Av) (ops : List Oper) (i : Nat) (σ : St) : St → Prop
  | go (o : Oper) (ho : ops[i]? = some o) (hg : o.guard = none ∨ ∃ g want d s, o.guard = some (g, want) ∧ (ops[g]?).bind (·.dst) = some d ∧ σ.tm d = .a false [.bool s] ∧ s.b = want) (v : SV) (hp : Hp)
      (hw : Ways C av o (σ.nx + 16 * i) σ v hp) (hd : ∀ d, o.dst = some d → d < C.N) : Step C av ops i σ ⟨putT σ.tm o.dst v, hp, σ.nx⟩
  | skip (o : Oper) (ho : ops[i]? = some o) (g : Nat) (want : Bool) (d : Nat) (hg : o.guard = some (g, want)) (hd : (ops[g]?).bind (·.dst) = some d) (hs : (∃ s, σ.tm d = .a false [.bool s] ∧ s.b ≠ want) ∨ ∃ xs, σ.tm d = .tup xs)
      (hd : ∀ d, o.dst = some d → d < C.N) : Step C av ops i σ ⟨putT σ.tm o.dst (.tup []), σ.hp, σ.nx⟩
theorem putK_out {N : Nat} {kn : Kn} {σ : St} {hp : Hp} {dst : Option Tmp} {v : SV} {K : Kn → St → Option R} {r : R} (h : putK N kn σ hp dst v K = some r) (hk : KnOK kn σ) :
    (∀ d, dst = some d → d < N) ∧ ∃ kn', K kn' ⟨putT σ.tm dst v, hp, σ.nx⟩ = some r ∧ KnOK kn' ⟨putT σ.tm dst v, hp, σ.nx⟩ := by
  cases dst with
  | none => exact ⟨fun _ h => (by cases h), kn, h, hk⟩
  | some d =>
    simp only [putK] at h
    cases hb : Nat.blt d N with
    | false => rw [hb] at h; simp at h
    | true =>
      rw [hb] at h
      refine ⟨fun d' hd' => by injection hd' with hd'; subst hd'; exact Nat.le_of_ble_eq_true hb, knOut kn d, h, fun t b s h1 h2 => ?_⟩
      by_cases ht : t = d
      · subst ht; rw [knOut_same] at h1; cases h1
      · rw [knOut_other ht] at h1
        have h2' : (upd σ.tm d v) t = .a false [.bool s] := h2
        rw [upd_other _ _ ht] at h2'
        exact hk t b s h1 h2'
theorem stepK_inv {C : Ctx} {av : Av} {ops : List Oper} {i : Nat} {kn : Kn} {σ : St} {K : Kn → St → Option R} {r : R} (h : stepK C av ops i kn σ K = some r) (hk : KnOK kn σ) :
    ∃ σ' kn', Step C av ops i σ σ' ∧ K kn' σ' = some r ∧ KnOK kn' σ' := by
  unfold stepK at h
  split at h
  · cases h
  · rename_i o ho
    have go : ∀ (hg : o.guard = none ∨ ∃ g want d s, o.guard = some (g, want) ∧ (ops[g]?).bind (·.dst) = some d ∧ σ.tm d = .a false [.bool s] ∧ s.b = want) kn, KnOK kn σ → execK C av o (σ.nx + 16 * i) kn σ K = some r →
        ∃ σ' kn', Step C av ops i σ σ' ∧ K kn' σ' = some r ∧ KnOK kn' σ' := by
      intro hg kn hk h
      obtain ⟨v, hp, kn1, hw, h1, hk1⟩ := execK_inv h hk
      obtain ⟨hd, kn2, h2, hk2⟩ := putK_out h1 hk1
      exact ⟨_, kn2, .go o ho hg v hp hw hd, h2, hk2⟩
    split at h
    · rename_i hg
      exact go (.inl hg) kn hk h
    · rename_i g want hg
      split at h
      · cases h
      · rename_i d hd
        have sk : ((∃ s, σ.tm d = .a false [.bool s] ∧ s.b ≠ want) ∨ ∃ xs, σ.tm d = .tup xs) → ∀ kn, KnOK kn σ → putK C.N kn σ σ.hp o.dst (.tup []) K = some r → ∃ σ' kn', Step C av ops i σ σ' ∧ K kn' σ' = some r ∧ KnOK kn' σ' := by
          intro hs kn hk h
          obtain ⟨hdd, kn2, h2, hk2⟩ := putK_out h hk
          exact ⟨_, kn2, .skip o ho g want d hg hd hs hdd, h2, hk2⟩
        split at h
        · rename_i s hs
          obtain ⟨kn', h1, h2⟩ := askK_inv (σ := σ) h hk (fun t ht => by injection ht with ht; subst ht; exact hs)
          cases hw : want with
          | true =>
            subst hw
            cases hb : s.b with
            | true => rw [hb] at h1; exact go (.inr ⟨g, true, d, s, hg, hd, hs, hb⟩) kn' h2 h1
            | false => rw [hb] at h1; exact sk (.inl ⟨s, hs, by rw [hb]; simp⟩) kn' h2 h1
          | false =>
            subst hw
            cases hb : s.b with
            | true => rw [hb] at h1; exact sk (.inl ⟨s, hs, by rw [hb]; simp⟩) kn' h2 h1
            | false => rw [hb] at h1; exact go (.inr ⟨g, false, d, s, hg, hd, hs, hb⟩) kn' h2 h1
        · rename_i xs hs
          exact sk (.inr ⟨xs, hs⟩) kn hk h
        · cases h
/-- A region's operations one behind the other. -/
inductive Steps' (C : Ctx) (av : Nat → Av) (ops : List Oper) : List Nat → St → St → Prop
  | nil (σ : St) : Steps' C av ops [] σ σ
  | cons {i : Nat} {l : List Nat} {σ σ1 σ2 : St} (h : Step C (av i) ops i σ σ1) (r : Steps' C av ops l σ1 σ2) : Steps' C av ops (i :: l) σ σ2
theorem runK_inv {C : Ctx} {av : Nat → Av} {ops : List Oper} {K : St → Option R} {r : R} : ∀ {l : List Nat} {kn : Kn} {σ : St}, runK C av ops l kn σ K = some r → KnOK kn σ → ∃ σ', Steps' C av ops l σ σ' ∧ K σ' = some r
  | [], kn, σ, h, hk => ⟨σ, .nil σ, h⟩
  | i :: l, kn, σ, h, hk => by
    simp only [runK] at h
    obtain ⟨σ1, kn1, h1, h2, h3⟩ := stepK_inv h hk
    obtain ⟨σ2, h4, h5⟩ := runK_inv h2 h3
    exact ⟨σ2, .cons h1 h4, h5⟩
end
end Go.Sx
/- One operation, a region: what the symbolic steps say of the machine's. -/
set_option linter.unusedVariables false
set_option linter.unusedSimpArgs false
namespace Go.Sx
/-- A call's own place: the world that it began in, the names that it was handed. -/
structure Cx where
  base : Nat
  G : GS
  w0 : World
  hp0 : Hp
  ν0 : Nat → Value
  N : Nat
structure HoldsAt (A : Cx) (σ : St) (a : Act) (w : World) (ν : Nat → Value) : Prop where
  tm : ∀ t, VRel σ.hp ν (σ.tm t) (a.tmps.getD t undef)
  mem : Mem A.base A.G A.w0 w σ.hp ν
  ext : Ext A.hp0 A.ν0 σ.hp ν
  defers : a.defers = []
  size : a.tmps.size = A.N
def Holds (A : Cx) (σ : St) (a : Act) (w : World) : Prop := ∃ ν, HoldsAt A σ a w ν
def VsRel (hp : Hp) (ν : Nat → Value) : List SV → List Value → Prop
  | [], [] => True
  | x :: xs, v :: vs => VRel hp ν x v ∧ VsRel hp ν xs vs
  | _, _ => False
/-- A function that is entered when it is called. -/
def Enters (P : Program) (f : FuncId) : Prop := ∃ fn, P.funcs[f]? = some fn ∧ (fn.name == "runtime.NumGoroutine") = false ∧ fn.body.isNone = false
/-- A contract that the program keeps. -/
def CtrOK (P : Program) (f : FuncId) (C : Con) : Prop :=
  Enters P f ∧ ∀ (k : Nat) (x : AKs C.ak) (b : OKs C.rk), C.fn k x = some b → ∀ (base : Nat) (G : GS) (w0 w : World) (hp : Hp) (ν : Nat → Value) (args : List SV) (vargs : Array Value) (nm : Nat),
    Mem base G w0 w hp ν → VsRel hp ν args vargs.toList → mAs hp C.ak args = some x → apN hp C.ak args = true → freeN hp nm (OK.news C.rk) = true →
    Calls P f vargs w fun e w' => ∃ v ν', e = .returned v ∧ VRel (inOs args C.nres (ptrs C.ak args) C.rk b nm (relH C.ak args hp)).2 ν' (resV C.nres (inOs args C.nres (ptrs C.ak args) C.rk b nm (relH C.ak args hp)).1) v ∧
      Mem base G w0 w' (inOs args C.nres (ptrs C.ak args) C.rk b nm (relH C.ak args hp)).2 ν' ∧ Ext hp ν (inOs args C.nres (ptrs C.ak args) C.rk b nm (relH C.ak args hp)).2 ν'
section
variable {A : Cx} {C : Ctx} {av : Av} {σ : St} {a : Act} {w : World}
theorem ev_rel {hp : Hp} {ν : Nat → Value} {tm : Nat → SV} (h : ∀ t, VRel hp ν (tm t) (a.tmps.getD t undef)) (x : Operand) : VRel hp ν (ev tm x) (a.eval x) := by
  cases x with
  | tmp t => exact h t
  | const v => exact SV.ofV_rel v
  | global g => trivial
  | func f => trivial
theorem put_rel {hp : Hp} {ν : Nat → Value} {tm : Nat → SV} (h : ∀ t, VRel hp ν (tm t) (a.tmps.getD t undef)) {dst : Option Tmp} {v : SV} {u : Value} (hv : VRel hp ν v u) (hd : ∀ d, dst = some d → d < a.tmps.size) :
    ∀ t, VRel hp ν (putT tm dst v t) ((a.put dst u).tmps.getD t undef) := by
  intro t
  cases dst with
  | none => exact h t
  | some d =>
    have hlt := hd d rfl
    simp only [putT, Act.put]
    by_cases ht : t = d
    · subst ht
      rw [upd_same]
      have : (a.tmps.setIfInBounds t u).getD t undef = u := by simp [Array.getD, hlt]
      rw [this]
      exact hv
    · rw [upd_other _ _ ht]
      have : (a.tmps.setIfInBounds d u).getD t undef = a.tmps.getD t undef := by
        simp only [Array.getD_eq_getD_getElem?]
        rw [Array.getElem?_setIfInBounds_ne (fun e => ht e.symm)]
      rw [this]
      exact h t
theorem put_size (a : Act) (dst : Option Tmp) (u : Value) : (a.put dst u).tmps.size = a.tmps.size := by cases dst <;> simp [Act.put]
theorem put_defers (a : Act) (dst : Option Tmp) (u : Value) : (a.put dst u).defers = a.defers := by cases dst <;> rfl
/-- Behind an operation. -/
theorem HoldsAt.put {ν ν' : Nat → Value} (h : HoldsAt A σ a w ν) {hp' : Hp} {w' : World} {dst : Option Tmp} {v : SV} {u : Value} (hv : VRel hp' ν' v u) (hm : Mem A.base A.G A.w0 w' hp' ν') (hx : Ext σ.hp ν hp' ν') (hd : ∀ d, dst = some d → d < A.N) :
    HoldsAt A ⟨putT σ.tm dst v, hp', σ.nx⟩ (a.put dst u) w' ν' :=
  ⟨put_rel (fun t => (h.tm t).mono hx) hv (fun d e => by rw [h.size]; exact hd d e), hm, h.ext.trans hx, by rw [put_defers]; exact h.defers, by rw [put_size]; exact h.size⟩
theorem undef_rel (hp : Hp) (ν : Nat → Value) : VRel hp ν (.tup []) undef := ⟨#[], rfl, trivial⟩
theorem vs_of_map {hp : Hp} {ν : Nat → Value} {e : Operand → SV} {ρ : Operand → Value} (he : ∀ x, VRel hp ν (e x) (ρ x)) : ∀ xs : List Operand, VsRel hp ν (xs.map e) (xs.map ρ)
  | [] => trivial
  | x :: xs => ⟨he x, vs_of_map he xs⟩
theorem ways_sound {o : Oper} {nm : Nat} {v : SV} {hp' : Hp} {ν : Nat → Value} {Q : Exit → Act → World → Prop} (h : Ways C av o nm σ v hp') (hH : HoldsAt A σ a w ν) (hG : ∀ f con, C.G f = some con → CtrOK C.P f con) (hd : ∀ d, o.dst = some d → d < A.N) :
    o.wp C.P a w (fun a' w' => Holds A ⟨putT σ.tm o.dst v, hp', σ.nx⟩ a' w') Q := by
  have he := ev_rel (a := a) hH.tm
  cases h with
  | pick c x y s ho hs =>
    have hb := he c
    rw [hs] at hb
    have hrun : (execOp a.eval o).run C.P w = .ok (.value (if s.b = true then a.eval x else a.eval y)) w := by
      unfold execOp
      rw [ho]
      simp [hb.bool, asBool]
    unfold Oper.wp
    rw [hrun]
    refine ⟨ν, hH.put ?_ hH.mem (.refl _ _) hd⟩
    split
    · exact he x
    · exact he y
  | call f as ts con x b ho hf hx hfn hc =>
    rw [Bool.and_eq_true, Bool.and_eq_true, Bool.and_eq_true] at hc
    obtain ⟨⟨fn, hfu, hname, hbody⟩, hcall⟩ := hG f con hf
    have hargs : VsRel σ.hp ν (as.toList.map (ev σ.tm)) (as.map a.eval).toList := by
      rw [Array.toList_map]; exact vs_of_map he as.toList
    have hc2 := hcall C.k x b hfn A.base A.G A.w0 w σ.hp ν _ (as.map a.eval) nm hH.mem hargs hx hc.1.2 hc.2.1
    have hrun : (execOp a.eval o).run C.P w = .ok (.enter f (as.map a.eval)) w := by
      unfold execOp
      simp only [ho, resolve, Act.eval, Deferred.ofValue, Sem.run_bind, Sem.run_pure, Result.andThen_ok, invoke, callFunc, run_program, hfu]
      simp [hname, hbody]
    unfold Oper.wp
    rw [hrun]
    simp only [Oper.upon]
    refine hc2.mono ?_
    rintro e' w' ⟨u, ν', rfl, hv, hm, hext⟩
    exact ⟨ν', hH.put hv hm hext hd⟩
  | op cs v hp ho hc =>
    obtain ⟨u, w', ν', hdid, hv, hm, hext⟩ := opA_sound ho hc he hH.mem
    unfold Oper.wp
    rcases hdid with hrun | ⟨hrun, rfl⟩
    · rw [hrun]
      exact ⟨ν', hH.put hv hm hext hd⟩
    · rw [hrun]
      exact ⟨ν', hH.put hv hm hext hd⟩
theorem step_sound {ops : List Oper} {i : Nat} {σ' : St} {Q : Exit → Act → World → Prop} (h : Step C av ops i σ σ') (hH : Holds A σ a w) (hG : ∀ f con, C.G f = some con → CtrOK C.P f con) (hN : C.N = A.N) :
    wpOp C.P ops.toArray Q i (fun a' w' => Holds A σ' a' w') a w := by
  obtain ⟨ν, hH⟩ := hH
  unfold wpOp
  have hbool : ∀ d s, σ.tm d = .a false [.bool s] → a.tmps[d]? = some (.bool s.b) := by
    intro d s hs
    have := hH.tm d
    rw [hs] at this
    have hb := this.bool
    rw [Array.getD_eq_getD_getElem?] at hb
    cases hq : a.tmps[d]? with
    | none => rw [hq] at hb; simp [undef] at hb
    | some q => rw [hq] at hb; simp at hb; rw [hb]
  cases h with
  | go o ho hg v hp hw hd =>
    have ho' : ops.toArray[i]? = some o := by simpa using ho
    rw [ho']
    simp only []
    have hwant : Region.wanted o (yielded ops.toArray a.tmps) = true := by
      unfold Region.wanted
      rcases hg with hg | ⟨g, want, d, s, hg, hdd, hs, hb⟩
      · rw [hg]
      · rw [hg]
        have : (ops.toArray[g]?).bind (·.dst) = some d := by simpa using hdd
        have hy : yielded ops.toArray a.tmps g = some s.b := by
          unfold yielded
          rw [this, Option.bind_some, hbool d s hs]
        simp only []
        rw [hy, hb]
        simp
    rw [if_pos hwant]
    exact .inl (ways_sound hw hH hG (fun d e => by rw [← hN]; exact hd d e))
  | skip o ho g want d hg hdd hs hd =>
    have ho' : ops.toArray[i]? = some o := by simpa using ho
    rw [ho']
    simp only []
    have hwant : Region.wanted o (yielded ops.toArray a.tmps) = false := by
      unfold Region.wanted
      rw [hg]
      have hdd' : (ops.toArray[g]?).bind (·.dst) = some d := by simpa using hdd
      rcases hs with ⟨s, hs, hb⟩ | ⟨xs, hs⟩
      · have hy : yielded ops.toArray a.tmps g = some s.b := by
          unfold yielded
          rw [hdd', Option.bind_some, hbool d s hs]
        simp only []
        rw [hy]
        simp [hb]
      · have := hH.tm d
        rw [hs] at this
        obtain ⟨vs, hvs, _⟩ := this
        rw [Array.getD_eq_getD_getElem?] at hvs
        cases hq : a.tmps[d]? with
        | none =>
          have hy : yielded ops.toArray a.tmps g = none := by
            unfold yielded
            rw [hdd', Option.bind_some, hq]
          simp only []
          rw [hy]
          simp
        | some q =>
          rw [hq] at hvs
          simp at hvs
          subst hvs
          have hy : yielded ops.toArray a.tmps g = none := by
            unfold yielded
            rw [hdd', Option.bind_some, hq]
          simp only []
          rw [hy]
          simp
    rw [if_neg (by rw [hwant]; simp)]
    exact ⟨ν, hH.put (undef_rel _ _) hH.mem (.refl _ _) (fun d e => by rw [← hN]; exact hd d e)⟩
theorem steps_sound {av : Nat → Av} {ops : List Oper} {σ' : St} {Q : Exit → Act → World → Prop} (hG : ∀ f con, C.G f = some con → CtrOK C.P f con) (hN : C.N = A.N) (hQ : ∀ a w, Holds A σ' a w → Q .normal a w) :
    ∀ {l : List Nat} {σ : St} {a : Act} {w : World}, Steps' C av ops l σ σ' → Holds A σ a w → wpOps C.P ops.toArray Q l a w
  | [], σ, a, w, h, hH => by
    cases h
    exact hQ a w hH
  | i :: l, σ, a, w, h, hH => by
    cases h with
    | cons h1 h2 =>
      rw [wpOps_cons]
      exact wpOp_mono (fun a' w' h' => steps_sound hG hN hQ h2 h') (step_sound h1 hH hG hN)
theorem holds_nx {n : Nat} (h : Holds A σ a w) : Holds A ⟨σ.tm, σ.hp, n⟩ a w := by
  obtain ⟨ν, h⟩ := h
  exact ⟨ν, h.tm, h.mem, h.ext, h.defers, h.size⟩
end
end Go.Sx
/- Code: what the symbolic walk tells is what the machine does. -/
set_option linter.unusedVariables false
set_option linter.unusedSimpArgs false
namespace Go.Sx
theorem wp_loop_k {P : Program} {Q : Exit → Act → World → Prop} {a : Act} {w : World} {c : Code} (I : Nat → Act → World → Prop) (n : Nat) (h₀ : I n a w)
    (round : ∀ k a w, I k a w → c.wp P (Exit.then (fun a' w' => ∃ m, m < k ∧ I m a' w') Q) a w) : (Code.loop c).wp P Q a w := by
  intro b k cs
  have key : ∀ n a w, I n a w → ∃ e a' w', Q e a' w' ∧ Arrives P (lone (b.at a (.code c :: .inLoop c :: k)) cs w) b k cs e a' w' := by
    intro n
    induction n using Nat.strongRecOn with
    | _ n ih =>
      intro a w hI
      obtain ⟨e, a₁, w₁, hq, harr⟩ := round n a w hI b (.inLoop c :: k) cs
      cases e with
      | normal =>
        obtain ⟨m, hlt, hI₁⟩ := hq
        obtain ⟨e₂, a₂, w₂, hq₂, harr₂⟩ := ih m hlt a₁ w₁ hI₁
        exact ⟨e₂, a₂, w₂, hq₂, .of_steps (Steps.trans harr (.one step_inLoop)) harr₂⟩
      | exit id => exact ⟨_, a₁, w₁, hq, .pass (x := .inLoop c) rfl (fun _ _ => .inl (by simp)) harr⟩
      | goto l => exact ⟨_, a₁, w₁, hq, .pass (x := .inLoop c) rfl (fun _ _ => .inl (by simp)) harr⟩
      | ret => exact ⟨_, a₁, w₁, hq, .pass (x := .inLoop c) rfl (fun _ _ => .inl (by simp)) harr⟩
      | panic ch => exact ⟨_, a₁, w₁, hq, .pass (x := .inLoop c) rfl (fun _ _ => .inl (by simp)) harr⟩
      | outgrown => exact ⟨_, a₁, w₁, hq, .pass (x := .inLoop c) rfl (fun _ _ => .inl (by simp)) harr⟩
  obtain ⟨e, a', w', hq, harr⟩ := key n a w h₀
  exact ⟨e, a', w', hq, .of_steps (.one step_loop) harr⟩
/-- What a function's walk is made of: all but the rounds. -/
structure Fix (R : Type) where
  P : Program
  N : Nat
  G : FuncId → Option Con
  jn : Nat → Bool
  J : Nat → Nat → St → Option R
section
variable {R : Type}
def Fix.C (F : Fix R) (k : Nat) : Ctx := ⟨F.P, F.N, F.G, k⟩
def Fix.L (F : Fix R) (k : Nat) : Lam R := ⟨F.jn, F.J k⟩
abbrev KK (R : Type) := Nat → Exit → St → Option R
def thenKK (n : Nat → St → Option R) (K : KK R) : KK R := fun k => thenK (n k) (K k)
def inBlkK (id : Nat) (K : KK R) : KK R := fun k => inBlk id (K k)
def denKK (F : Fix R) (c : Code) (K : KK R) : Nat → St → Option R := fun k σ => den (F.C k) (F.L k) c (K k) σ
/-- The places of the labels, and what is walked from there. -/
def sites (F : Fix R) : Code → KK R → List (Nat × (Nat → St → Option R))
  | .seq x y, K => match ckey y with
    | some j => cnd (F.jn j) ((j, denKK F y K) :: (sites F x (thenKK (fun k => F.J k j) K) ++ sites F y K)) (sites F x (thenKK (denKK F y K) K) ++ sites F y K)
    | none => sites F x (thenKK (denKK F y K) K) ++ sites F y K
  | .cond _ x y, K => sites F x K ++ sites F y K
  | .block id c, K => sites F c (inBlkK id K)
  | .loop c, K => match ckey c with
    | some j => (j, denKK F c (thenKK (fun k => F.J k j) K)) :: sites F c (thenKK (fun k => F.J k j) K)
    | none => []
  | _, _ => []
/-- From a label on the walk goes as the label tells. -/
def SiteOK (F : Fix R) (A : Cx) (p : Nat × (Nat → St → Option R)) : Prop :=
  (∀ σ, F.J 0 p.1 σ = none) ∧ ∀ k σ r, F.J (k + 1) p.1 σ = some r → ∃ σ2, (∀ a w, Holds A σ a w → Holds A σ2 a w) ∧ p.2 k σ2 = some r
/-- The order of a region that draws is open. -/
def DrawOK (F : Fix R) (A : Cx) : Prop := ∀ (k : Nat) (id : Nat) (ops : Array Oper) (σ : St) (K : St → Option R) (r : R) (a : Act) (w : World) (Q : Exit → Act → World → Prop),
  regK (F.C k) ops true σ K = some r → Holds A σ a w → (∀ σ' a w, K σ' = some r → Holds A σ' a w → Q .normal a w) → (Code.region id ops true).wp F.P Q a w
theorem range_ops (n : Nat) : List.range n = List.range n := rfl
theorem reg_sound {F : Fix R} {A : Cx} (hG : ∀ f con, F.G f = some con → CtrOK F.P f con) (hN : F.N = A.N) {k id : Nat} {ops : Array Oper} {σ : St} {K : St → Option R} {r : R} {a : Act} {w : World} {Q : Exit → Act → World → Prop}
    (h : regK (F.C k) ops false σ K = some r) (hH : Holds A σ a w) (hQ : ∀ σ' a w, K σ' = some r → Holds A σ' a w → Q .normal a w) : (Code.region id ops false).wp F.P Q a w := by
  simp only [regK] at h
  obtain ⟨σ', h1, h2⟩ := runK_inv h (KnOK.nil σ)
  refine wp_region ?_
  have := steps_sound (A := A) (C := F.C k) (Q := Q) (ops := ops.toList) (σ' := σ') hG hN (fun a w hh => hQ _ a w h2 (holds_nx hh)) h1 hH
  simpa [Fix.C] using this
theorem den_sound {F : Fix R} {A : Cx} (hG : ∀ f con, F.G f = some con → CtrOK F.P f con) (hN : F.N = A.N) (hD : DrawOK F A) {r : R} :
    ∀ (c : Code) (K : KK R) (Q : Exit → Act → World → Prop) (n : Nat), (∀ p ∈ sites F c K, SiteOK F A p) →
      (∀ k, k ≤ n → ∀ e σ a w, K k e σ = some r → Holds A σ a w → Q e a w) →
      ∀ k, k ≤ n → ∀ σ a w, denKK F c K k σ = some r → Holds A σ a w → c.wp F.P Q a w := by
  intro c
  induction c with
  | skip =>
    intro K Q n _ hQ k hk σ a w h hH
    exact wp_skip (hQ k hk _ _ _ _ h hH)
  | region id ops draw =>
    intro K Q n _ hQ k hk σ a w h hH
    cases draw with
    | false => exact reg_sound hG hN h hH (fun σ' a w h' hH' => hQ k hk _ _ _ _ h' hH')
    | true => exact hD k id ops σ _ r a w Q h hH (fun σ' a w h' hH' => hQ k hk _ _ _ _ h' hH')
  | seq x y ihx ihy =>
    intro K Q n hs hQ k hk σ a w h hH
    have plain : (∀ p ∈ sites F x (thenKK (denKK F y K) K) ++ sites F y K, SiteOK F A p) → denKK F x (thenKK (denKK F y K) K) k σ = some r → (Code.seq x y).wp F.P Q a w := by
      intro hs h
      refine wp_seq (ihx (thenKK (denKK F y K) K) _ n (fun p hp => hs p (List.mem_append_left _ hp)) ?_ k hk σ a w h hH)
      intro k' hk' e σ' a' w' h' hH'
      cases e with
      | normal => exact ihy K Q n (fun p hp => hs p (List.mem_append_right _ hp)) hQ k' hk' σ' a' w' h' hH'
      | _ => exact hQ k' hk' _ _ _ _ h' hH'
    unfold denKK at h
    simp only [den] at h
    simp only [sites] at hs
    split at h
    · rename_i j hj
      rw [hj] at hs
      simp only [] at hs
      cases hjn : F.jn j with
      | true =>
        rw [hjn] at hs
        simp only [Fix.L, hjn, cnd_true] at h hs
        have hsite := hs (j, denKK F y K) List.mem_cons_self
        refine wp_seq (ihx (thenKK (fun k => F.J k j) K) _ n (fun p hp => hs p (List.mem_cons_of_mem _ (List.mem_append_left _ hp))) ?_ k hk σ a w h hH)
        intro k' hk' e σ' a' w' h' hH'
        cases e with
        | normal =>
          cases k' with
          | zero =>
            have h0 := hsite.1 σ'
            have h1 : F.J 0 j σ' = some r := h'
            simp only [] at h0
            rw [h0] at h1
            cases h1
          | succ m =>
            obtain ⟨σ2, hh, hd⟩ := hsite.2 m σ' r h'
            exact ihy K Q n (fun p hp => hs p (List.mem_cons_of_mem _ (List.mem_append_right _ hp))) hQ m (by omega) σ2 a' w' hd (hh a' w' hH')
        | _ => exact hQ k' hk' _ _ _ _ h' hH'
      | false =>
        rw [hjn] at hs
        simp only [Fix.L, hjn, cnd_false] at h hs
        exact plain hs h
    · rename_i hj
      rw [hj] at hs
      exact plain hs h
  | cond c x y ihx ihy =>
    intro K Q n hs hQ k hk σ a w h hH
    unfold denKK at h
    simp only [den] at h
    simp only [sites] at hs
    split at h
    · rename_i s hc
      obtain ⟨ν, hH'⟩ := hH
      have hv := ev_rel (a := a) hH'.tm c
      rw [hc] at hv
      refine wp_cond hv.bool ?_
      rw [cond_b] at h
      split at h
      · rename_i hb
        rw [if_pos hb]
        exact ihx K Q n (fun p hp => hs p (List.mem_append_left _ hp)) hQ k hk σ a w h ⟨ν, hH'⟩
      · rename_i hb
        rw [if_neg hb]
        exact ihy K Q n (fun p hp => hs p (List.mem_append_right _ hp)) hQ k hk σ a w h ⟨ν, hH'⟩
    · cases h
  | block id c ih =>
    intro K Q n hs hQ k hk σ a w h hH
    refine wp_block (ih (inBlkK id K) _ n hs ?_ k hk σ a w h hH)
    intro k' hk' e σ' a' w' h' hH'
    cases e with
    | exit i =>
      have h2 : cnd (Nat.beq i id) (K k' .normal σ') (K k' (.exit i) σ') = some r := h'
      by_cases hi : i = id
      · subst hi
        rw [beq_self', cnd_true] at h2
        simp only [Exit.inBlock, if_true]
        exact hQ k' hk' _ _ _ _ h2 hH'
      · rw [beq_ne hi, cnd_false] at h2
        simp only [Exit.inBlock, if_neg hi]
        exact hQ k' hk' _ _ _ _ h2 hH'
    | _ => exact hQ k' hk' _ _ _ _ h' hH'
  | loop c ih =>
    intro K Q n hs hQ k hk σ a w h hH
    unfold denKK at h
    simp only [den] at h
    simp only [sites] at hs
    split at h
    · rename_i j hj
      rw [hj] at hs
      simp only [] at hs
      have hsite := hs _ List.mem_cons_self
      refine wp_loop_k (fun m a w => m ≤ n ∧ ∃ σ, Holds A σ a w ∧ F.J m j σ = some r) k ⟨hk, σ, hH, h⟩ ?_
      rintro m a w ⟨hm, σ, hH, h⟩
      cases m with
      | zero =>
        have h0 := hsite.1 σ
        simp only [] at h0
        rw [h0] at h
        cases h
      | succ m =>
        obtain ⟨σ2, hh, hd⟩ := hsite.2 m σ r h
        refine ih (thenKK (fun k => F.J k j) K) _ m (fun p hp => hs p (List.mem_cons_of_mem _ hp)) ?_ m (Nat.le_refl _) σ2 a w hd (hh a w hH)
        intro k' hk' e σ' a' w' h' hH'
        cases e with
        | normal => exact ⟨k', by omega, by omega, σ', hH', h'⟩
        | _ => exact hQ k' (by omega) _ _ _ _ h' hH'
    · cases h
  | exit id =>
    intro K Q n _ hQ k hk σ a w h hH
    exact wp_exit (hQ k hk _ _ _ _ h hH)
  | ret =>
    intro K Q n _ hQ k hk σ a w h hH
    exact wp_ret (hQ k hk _ _ _ _ h hH)
  | _ =>
    intro K Q n _ hQ k hk σ a w h hH
    simp [denKK, den] at h
end
end Go.Sx
