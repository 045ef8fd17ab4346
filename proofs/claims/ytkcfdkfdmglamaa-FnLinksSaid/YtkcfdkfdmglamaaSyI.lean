/- An append; one operation that calls nobody, whichever. -/
import Derived.Test.YtkcfdkfdmglamaaSyH
set_option linter.unusedVariables false
set_option linter.unusedSimpArgs false
namespace Go.Sx
open Go.RowKit (wrap64)
section
variable {P : Program} {base : Nat} {G : Nat → Prop} {w0 w : World} {hp : Hp} {ν : Nat → Value} {ρ : Operand → Value} {e : Operand → SV} {o : Oper}
theorem run_append_none (t ty el : TypeId) (i : TypeInfo) (size : Nat) (c : Nat) (ht : P.underlying t = some (.slice el)) (hi : P.info? el = some i)
    (v : Value) (n : Nat) (xs : List Value) (hown : w.ownsRow base el size v n xs) : (Builtin.append_ #[t, t] ty #[v, .slice none 0 c]).run P w = .ok v w := by
  rcases hown.2 with ⟨rfl, rfl⟩ | ⟨g, cap, cur, rfl, _, _, hnc, _⟩
  · simp [Builtin.append_, run_underlying ht, sizeOf, typeInfo, hi, Builtin.lenOf, Builtin.firstCells]
  · simp [Builtin.append_, run_underlying ht, sizeOf, typeInfo, hi, Builtin.lenOf, Builtin.firstCells, hnc, storeCells]
theorem fresh_owns (w : World) (base : Nat) (e' : TypeId) (size n cap : Nat) (xs : List Value) (cur : Array Value) (hb : base ≤ w.heap.size) (hl : xs.length = n * size) (hn : n ≤ cap) (hc : cap ≤ maxLen) (hs : cur.size = cap * size) (ht : cur.toList.take (n * size) = xs) :
    (w.drew.alloc (.cells cur e')).ownsRow base e' size (.slice (some ⟨w.heap.size, 0, none⟩) n cap) n xs :=
  ⟨hl, .inr ⟨w.heap.size, cap, cur, rfl, hb, heap_alloc_new w.drew _, hn, hc, hs, ht⟩⟩
theorem append_cur (olds news : List Value) (z : Array Value) (n cap size : Nat) (hz : z.size = size) (hl : (olds ++ news).length = n * size) (hn : n ≤ cap) :
    (olds.toArray ++ news.toArray ++ Builtin.zeroCells z (cap - n)).size = cap * size ∧ (olds.toArray ++ news.toArray ++ Builtin.zeroCells z (cap - n)).toList.take (n * size) = olds ++ news := by
  constructor
  · simp only [Array.size_append, List.size_toArray, size_zeroCells, hz]
    rw [List.length_append] at hl
    rw [hl, ← Nat.add_mul]
    congr 1
    omega
  · simp only [Array.toList_append]
    rw [← hl, List.take_left]
theorem grown_alloc (w : World) (o : Obj) (r : Option Nat) : w.grownBy (w.drew.alloc o) r := ⟨rfl, rfl, rfl, by simp, fun k hk _ => heap_alloc_old w.drew o k hk⟩
theorem mul_bound {n b : Nat} (h : (n : Int) * (b : Int) ≤ 140737488355328) (hb : 0 < b) : n * b ≤ 140737488355328 ∧ n ≤ 140737488355328 := by
  have h1 : ((n * b : Nat) : Int) ≤ 140737488355328 := by rw [Int.natCast_mul]; exact h
  have h2 : n * 1 ≤ n * b := Nat.mul_le_mul_left _ hb
  omega
theorem good_append {t : TypeId} {s x : Operand} {av : Av} {nm : Nat} {cs : List SB} {v : SV} {hp' : Hp} (ho : o.op = .call { callee := .builtin .append, args := #[s, x], argTypes := #[t, t] })
    (h : appendA P av t nm hp (e s) (e x) = some (cs, v, hp')) (hc : ∀ s ∈ cs, s.b = true) (he : ∀ x, VRel hp ν (e x) (ρ x)) (hm : Mem base G w0 w hp ν) : Good P base G w0 hp ν ρ o w v hp' := by
  have run : ∀ v' w', (Builtin.append_ #[t, t] o.type #[ρ s, ρ x]).run P w = .ok v' w' → (execOp ρ o).run P w = .ok (.value v') w' := by
    intro v' w' hr
    unfold execOp
    simp only [ho, resolve, invoke, builtin, Sem.run_bind, Sem.run_pure, Result.andThen_ok, List.map_toArray, List.map_cons, List.map_nil, hr]
  have hs := he s
  have hx := he x
  unfold appendA at h
  split at h
  case h_2 => simp at h
  rename_i s' x' hes hex
  rw [hes] at hs
  rw [hex] at hx
  obtain ⟨zs, hzs, hs⟩ := hs
  injection hzs with hzs _
  subst hzs
  obtain ⟨zx, hzx, hx⟩ := hx
  injection hzx with hzx _
  subst hzx
  split at h
  case h_2 => simp at h
  rename_i el hus
  have hu := sliceOf_some hus
  split at h
  case h_2 => simp at h
  rename_i ty by_ zg z hty hby hz
  obtain ⟨i, hi, hsz⟩ := elTy_some hty
  obtain ⟨i', zv, hi', hzv, hrel⟩ := zeroC_rel hz
  rw [hi] at hi'
  injection hi' with hi'
  subst hi'
  rw [hi] at hby
  simp only [Option.map_some, Option.some.injEq] at hby
  subst hby
  split at h
  case h_2 => simp at h
  rename_i m hm' hnm
  have hreads := readL_rel hm' hx hm
  cases hcond : (Nat.beq z.length ty.size && Nat.blt 0 i.bytes) with
  | false => rw [hcond] at h; simp at h
  | true =>
  rw [hcond] at h
  simp only [cnd_true] at h
  rw [Bool.and_eq_true] at hcond
  have hzl := Nat.eq_of_beq_eq_true hcond.1
  have hb0 : 0 < i.bytes := Nat.le_of_ble_eq_true hcond.2
  have hzs : zv.cells.size = ty.size := by
    have := (hrel hp ν).cells.len
    simp at this
    omega
  obtain ⟨A, c, hv, hmc, hmm, hcells⟩ := hreads.out
  have hml : (ty.flat m).length = m.length * i.size := by rw [Ty.flat_len, hsz]
  split at h
  · simp only [Option.some.injEq, Prod.mk.injEq] at h
    obtain ⟨rfl, rfl, rfl⟩ := h
    have hs' : ρ s = .slice none 0 0 := hs
    have h0 := hc (.le ((m.length : Int) * i.bytes) 140737488355328) (by simp)
    simp only [SB.b, decide_eq_true_eq] at h0
    obtain ⟨hb1, hb2⟩ := mul_bound h0 hb0
    have hnil := World.ownsRow_nil w 0 el ty.size
    by_cases hm0 : m = []
    · subst hm0
      have hrun : (Builtin.append_ #[t, t] o.type #[ρ s, ρ x]).run P w = .ok (.slice none 0 0) w := by
        rw [hs', hv]
        cases A with
        | none => exact run_append_none t _ el i ty.size c hu hi _ 0 [] hnil
        | some a => simp [Builtin.append_, run_underlying hu, sizeOf, typeInfo, hi, Builtin.lenOf, Builtin.firstCells, loadCells, loadCellsFrom]
      have hmem := hm.new (w' := w) hnm (e := .row ty [] el) (v := .slice none 0 0) rfl rfl rfl (Nat.le_refl _) (fun _ _ => rfl) (fun g hg => by simp [blk] at hg) ⟨by simp [Ty.flat], .inl ⟨rfl, rfl⟩⟩ (by simp)
      refine ⟨_, _, _, .inl (run _ _ hrun), ?_, hmem.1, hmem.2⟩
      exact ⟨_, rfl, by rw [upd_same]; simp, by rw [upd_same], _, _, _, rfl⟩
    · obtain ⟨a, rfl, hcl⟩ := hcells hm0
      have hpos : 0 < m.length := List.length_pos_iff.2 hm0
      have hrun := run_append_nil (P := P) w t o.type el i zv hu hi hzv a m.length c (ty.flat m) hml hcl hpos (by omega) (by omega)
      rw [← hs', ← hv] at hrun
      have hge := grownCap_ge w m.length 0 el
      have hcm : grownCap w m.length 0 el ≤ maxLen := grownCap_le_maxLen w m.length 0 el (by simp only [maxLen]; omega)
      have hcur := append_cur [] (ty.flat m) zv.cells m.length (grownCap w m.length 0 el) ty.size hzs (by rw [List.nil_append, Ty.flat_len]) hge
      simp only [Array.empty_append, List.nil_append] at hcur
      have hmem := hm.new (w' := w.drew.alloc (.cells ((ty.flat m).toArray ++ Builtin.zeroCells zv.cells (grownCap w m.length 0 el - m.length)) el)) hnm (e := .row ty m el) (v := .slice (some ⟨w.heap.size, 0, none⟩) m.length (grownCap w m.length 0 el)) rfl rfl rfl (by simp) (fun k hk => heap_alloc_old w.drew _ k hk)
        (fun g hg => by simp [blk] at hg; omega) (fresh_owns w 0 el ty.size m.length _ (ty.flat m) _ (Nat.zero_le _) (by rw [Ty.flat_len]) hge hcm hcur.1 hcur.2) (by simp)
      refine ⟨_, _, _, .inl (run _ _ hrun), ?_, hmem.1, hmem.2⟩
      exact ⟨_, rfl, by rw [upd_same]; simp, by rw [upd_same], _, _, _, rfl⟩
  · rename_i n
    obtain ⟨hnf, hsv, _⟩ := hs
    split at h
    case h_2 => simp at h
    rename_i t' l e' hen
    split at h
    case h_2 => simp at h
    rename_i heq _
    subst heq
    cases hc2 : (wrOk av n && (Nat.beq e' el && notIn x' n)) with
    | false => rw [hc2] at h; simp at h
    | true =>
    rw [hc2] at h
    simp only [cnd_true, Option.some.injEq, Prod.mk.injEq] at h
    obtain ⟨rfl, rfl, rfl⟩ := h
    rw [Bool.and_eq_true, Bool.and_eq_true] at hc2
    have hee := Nat.eq_of_beq_eq_true hc2.2.1
    subst hee
    have h0 := hc (.le ((l.length + m.length : Nat) * i.bytes) 140737488355328) (by simp)
    simp only [SB.b, decide_eq_true_eq] at h0
    obtain ⟨hb1, hb2⟩ := mul_bound h0 hb0
    have hent := hm.ent n
    rw [hen] at hent
    have hown : w.ownsRow 0 e' t'.size (ν n) l.length (t'.flat l) := hent
    have done : ∀ (w' : World) (v' : Value), (Builtin.append_ #[t, t] o.type #[ρ s, ρ x]).run P w = .ok v' w' → w.grownBy w' (ν n).ownBlock → (∀ g, blk v' = some g → w.heap.size ≤ g ∨ blk (ν n) = some g) →
        w'.ownsRow 0 e' t'.size v' (l.length + m.length) (t'.flat l ++ t'.flat m) → Good P base G w0 hp ν ρ o w (one (.sl nm)) (upd (upd hp n .dead) nm (.row t' (l ++ m) e')) := by
      intro w' v' hr hg hsep hw'
      have hmem := hm.turn (w' := w') (n := n) (nm := nm) hnm hen (e := .row t' (l ++ m) e') (v := v') hg hsep (by
        show w'.ownsRow 0 e' t'.size v' (l ++ m).length (t'.flat (l ++ m))
        rw [List.length_append, Ty.flat_append]; exact hw') (by simp)
      refine ⟨_, _, _, .inl (run _ _ hr), ?_, hmem.1, hmem.2⟩
      obtain ⟨A', c', hv'⟩ : ∃ A' c', v' = .slice A' (l.length + m.length) c' := by
        rcases hw'.2 with ⟨h1, h2⟩ | ⟨g, cap, cur, h1, _⟩
        · exact ⟨none, 0, by rw [h1, h2]⟩
        · exact ⟨_, _, h1⟩
      exact ⟨_, rfl, by rw [upd_same]; simp, by rw [upd_same], _, _, _, hv'⟩
    by_cases hm0 : m = []
    · subst hm0
      refine done w (ν n) ?_ (grownBy_refl _ _) (fun g hg => .inr hg) (by simpa [Ty.flat] using hown)
      rw [hsv, hv]
      cases A with
      | none => exact run_append_none t _ e' i t'.size c hu hi _ _ _ hown
      | some a =>
        rcases hown.2 with ⟨h1, h2⟩ | ⟨g, cap, cur, h1, _, _, hnc, _⟩
        · rw [h1]; simp [Builtin.append_, run_underlying hu, sizeOf, typeInfo, hi, Builtin.lenOf, Builtin.firstCells, loadCells, loadCellsFrom]
        · rw [h1]; simp [Builtin.append_, run_underlying hu, sizeOf, typeInfo, hi, Builtin.lenOf, Builtin.firstCells, loadCells, loadCellsFrom, hnc, storeCells]
    · obtain ⟨a, rfl, hcl⟩ := hcells hm0
      have hpos : 0 < m.length := List.length_pos_iff.2 hm0
      rcases hown.2 with ⟨h1, h2⟩ | ⟨g, cap, cur, h1, hbg, hheap, hnc, hcm, hcs, htake⟩
      · have hl0 : l = [] := List.length_eq_zero_iff.1 h2
        subst hl0
        simp only [List.length_nil, Nat.zero_add] at hb1 hb2
        have hrun := run_append_nil (P := P) w t o.type e' i zv hu hi hzv a m.length c (t'.flat m) hml hcl hpos (by omega) (by omega)
        rw [← h1, ← hsv, ← hv] at hrun
        have hge := grownCap_ge w m.length 0 e'
        have hcm : grownCap w m.length 0 e' ≤ maxLen := grownCap_le_maxLen w m.length 0 e' (by simp only [maxLen]; omega)
        have hcur := append_cur [] (t'.flat m) zv.cells m.length (grownCap w m.length 0 e') t'.size hzs (by rw [List.nil_append, Ty.flat_len]) hge
        simp only [Array.empty_append, List.nil_append] at hcur
        refine done _ _ hrun (grown_alloc w _ _) (fun g hg => by simp [blk] at hg; exact .inl (by omega)) ?_
        have := fresh_owns w 0 e' t'.size m.length _ (t'.flat m) _ (Nat.zero_le _) (by rw [Ty.flat_len]) hge hcm hcur.1 hcur.2
        simpa [Ty.flat] using this
      · have hownv : w.ownsRow 0 e' t'.size (.slice (some ⟨g, 0, none⟩) l.length cap) l.length (t'.flat l) := by rw [← h1]; exact hown
        by_cases hroom : l.length + m.length ≤ cap
        · obtain ⟨w', hr, how, hgr⟩ := run_append_fits (P := P) w 0 t o.type e' i t'.size hu hi hsz g l.length cap (t'.flat l) hownv a m.length c (t'.flat m) (by rw [Ty.flat_len]) hcl (Ty.flat_one t' m) hroom
          rw [← h1, ← hsv, ← hv] at hr
          refine done w' _ hr (by rw [h1]; exact hgr) (fun g' hg' => .inr (by rw [h1]; exact hg')) how
        · have holds : ∀ j u, (t'.flat l)[j]? = some u → w.cell? ((⟨g, 0, none⟩ : Addr).add j) = some u := hownv.cells (g := g) rfl
          have hrun := run_append_grow (P := P) w t o.type e' i zv hu hi hzv ⟨g, 0, none⟩ l.length cap (t'.flat l) (by rw [Ty.flat_len, hsz]) holds a m.length c (t'.flat m) hml hcl (by omega) (by omega) (growslice_fits (by omega) hb1)
          rw [← h1, ← hsv, ← hv] at hrun
          have hge := grownCap_ge w (l.length + m.length) cap e'
          have hcm' : grownCap w (l.length + m.length) cap e' ≤ maxLen := grownCap_le_maxLen w _ cap e' (by simp only [maxLen]; omega)
          have hcur := append_cur (t'.flat l) (t'.flat m) zv.cells (l.length + m.length) (grownCap w (l.length + m.length) cap e') t'.size hzs (by rw [List.length_append, Ty.flat_len, Ty.flat_len, Nat.add_mul]) hge
          refine done _ _ hrun (grown_alloc w _ _) (fun g hg => by simp [blk] at hg; exact .inl (by omega)) ?_
          exact fresh_owns w 0 e' t'.size _ _ _ _ (Nat.zero_le _) (by rw [List.length_append, Ty.flat_len, Ty.flat_len, Nat.add_mul]) hge hcm' hcur.1 hcur.2
  · simp at h
end
end Go.Sx
