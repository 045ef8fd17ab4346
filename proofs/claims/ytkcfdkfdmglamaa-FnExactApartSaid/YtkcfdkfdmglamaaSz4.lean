/- A symbolic executor of the model's code, run by the kernel, and that it is sound; plain lemmas. -/
import Derived.Test.YtkcfdkfdmglamaaSz3
/- Small things: facts that are hidden, sums of beginnings. -/
set_option linter.unusedVariables false
set_option linter.unusedSimpArgs false
namespace Go.Sx
open Go.RowKit (wrap64)
/-- A fact that is kept, and that a search does not look at. -/
def Hid (p : Prop) : Prop := p
theorem Hid.mk {p : Prop} (h : p) : Hid p := h
theorem Hid.out {p : Prop} (h : Hid p) : p := h
theorem pulses_get {ts : List Tick} {j : Nat} (h : j < ts.length) : (pulses ts)[j]'(by rw [pulses_len]; exact h) = ts[j].1 := by
  unfold pulses
  rw [List.getElem_map]
theorem sum_take_succ {L : List Int} {c : Nat} (h : c < L.length) : (L.take (c + 1)).sum = (L.take c).sum + L[c] := by
  rw [List.take_succ_eq_append_getElem h, List.sum_append]
  simp
theorem take_bound {L : List Int} (h : ∀ x ∈ L, 0 ≤ x ∧ x ≤ 30) (hl : L.length ≤ 200) (j : Nat) : 0 ≤ (L.take j).sum ∧ (L.take j).sum ≤ 6000 := by
  have h1 := sum_le_30 (l := L.take j) (fun x hx => h x (List.mem_of_mem_take hx))
  have h2 : (L.take j).length ≤ L.length := by rw [List.length_take]; omega
  omega
theorem w64s {n : Int} (h0 : 0 ≤ n) (h1 : n ≤ 1000000000000) : wrap64 n = n := w64 (by omega) (by omega)
theorem w64n {n : Nat} (h : n ≤ 1000000000000) : wrap64 (n : Int) = (n : Int) := w64 (by omega) (by omega)
theorem win_bound {L : List Int} (h : ∀ x ∈ L, 0 ≤ x ∧ x ≤ 30) (hw : ∀ i, ((L.drop i).take 10).sum ≤ 30) (i c : Nat) (hc : c ≤ 10) : 0 ≤ ((L.drop i).take c).sum ∧ ((L.drop i).take c).sum ≤ 30 := by
  have h0 : ∀ x ∈ L.drop i, 0 ≤ x := fun x hx => (h x (List.mem_of_mem_drop hx)).1
  have e : (L.drop i).take c = ((L.drop i).take 10).take c := by
    rw [List.take_take, Nat.min_eq_left hc]
  have h1 := sum_take_le c (l := (L.drop i).take 10) (fun x hx => h0 x (List.mem_of_mem_take hx))
  have h2 := sum_nonneg (l := (L.drop i).take c) (fun x hx => h0 x (List.mem_of_mem_take hx))
  have h3 := hw i
  rw [← e] at h1
  omega
end Go.Sx
/- What alarms that are held tell tick by tick. -/
set_option linter.unusedVariables false
set_option linter.unusedSimpArgs false
namespace Go.Sx
open Go.RowKit (wrap64)
theorem zero_or : ∀ a : _root_.Fin 16, ior .i64 0 (a.val : Int) = (a.val : Int) := by decide +kernel
theorem zero_or' {a : Int} (ha : senseOk a = true) : ior .i64 0 a = a := by
  have ha := senseOk_den ha
  have h := zero_or ⟨a.toNat, by omega⟩
  simp only [Int.toNat_of_nonneg ha.1] at h
  exact h
theorem latF_at : ∀ (ts : List Tick) (is : List In) (m : Menu) (a : Int), senseOk a = true → latF ts is m a = true → ts.length = is.length → ∀ (j : Nat) (h1 : j < ts.length) (h2 : j < is.length), ∃ (m' : Menu) (a' : Int), senseOk a' = true ∧ (j = 0 → a' = a) ∧ (∀ i (hi : i + 1 = j), a' = (ts[i]'(by omega)).2.1) ∧ latC ts[j].2.1 is[j].1 a' (seenF (ordersOf m' is[j]).2) = true
  | [], _, _, _, _, _, _, j, h1, _ => by simp at h1
  | _ :: _, [], _, _, _, _, _, j, _, h2 => by simp at h2
  | t :: ts, i :: is, m, a, ha, h, hl, j, h1, h2 => by
    have h : (latC t.2.1 i.1 a (seenF (ordersOf m i).2) && latF ts is (ordersOf m i).1 t.2.1) = true := h
    rw [Bool.and_eq_true] at h
    have ht : senseOk t.2.1 = true := by
      have h3 := h.1
      unfold latC at h3
      simp only [Bool.and_eq_true] at h3
      exact h3.2.1
    cases j with
    | zero => exact ⟨m, a, ha, fun _ => rfl, fun i hi => by omega, h.1⟩
    | succ j =>
      simp only [List.length_cons] at h1 h2 hl
      obtain ⟨m', a', g0, g1, g2, g3⟩ := latF_at ts is _ _ ht h.2 (by omega) j (by omega) (by omega)
      refine ⟨m', a', g0, fun h => by omega, fun k hk => ?_, g3⟩
      cases k with
      | zero => exact g1 (by omega)
      | succ k => exact g2 k (by omega)
theorem latC_den {al bits a : Int} {sn : Bool} (h : latC al bits a sn = true) : senseOk bits = true ∧ senseOk al = true ∧ ior .i64 al bits = al ∧ (sn = true ∨ ior .i64 al a = al) := by
  unfold latC at h
  simp only [Bool.and_eq_true, Bool.or_eq_true, decide_eq_true_eq] at h
  exact h
theorem held_facts {ts : List Tick} {is : List In} (h : latched ts is = true) (hs : stops ts = true) (j : Nat) (h1 : j < ts.length) (h2 : j < is.length) :
    (ts[j].2.1 = 0 ∨ ts[j].1 = 0) ∧ (is[j].1 = 0 ∨ ts[j].2.1 ≠ 0) ∧ (∀ i (hi : i + 1 = j), is[j].2.1 = ⟨#[]⟩ → is[j].2.2 = ⟨#[]⟩ → ((ts[i]'(by omega)).2.1 = 0 ∨ ts[j].2.1 ≠ 0)) := by
  unfold latched at h
  rw [Bool.and_eq_true, decide_eq_true_eq] at h
  obtain ⟨m', a', g0, g1, g2, g3⟩ := latF_at ts is _ _ rfl h.2 h.1 j h1 h2
  obtain ⟨q1, q2, q3, q4⟩ := latC_den g3
  refine ⟨?_, ?_, fun i hi hk hl => ?_⟩
  · unfold stops at hs
    rw [List.all_eq_true] at hs
    exact of_decide_eq_true (hs ts[j] (List.getElem_mem h1))
  · by_cases hz : ts[j].2.1 = 0
    · rw [hz, zero_or' q1] at q3
      exact .inl q3
    · exact .inr hz
  · have hsn : seenF (ordersOf m' is[j]).2 = false := by
      have e : ordersOf m' is[j] = (m', []) := by
        unfold ordersOf
        rw [hk, hl, readO_empty, if_neg (by simp)]
        rfl
      rw [e]; rfl
    rw [hsn] at q4
    have q4 := q4.resolve_left (by simp)
    by_cases hz : ts[j].2.1 = 0
    · rw [hz, zero_or' g0] at q4
      exact .inl ((g2 i hi).symm.trans q4)
    · exact .inr hz
end Go.Sx
/- Lists that are marked. -/
set_option linter.unusedVariables false
set_option linter.unusedSimpArgs false
namespace Go.Sx
open Go.RowKit (wrap64)
theorem getD_set_self {α : Type} {l : List α} {i : Nat} {a d : α} (h : i < l.length) : (l.set i a).getD i d = a := by
  rw [List.getD_eq_getElem?_getD, List.getElem?_set_self h]; rfl
/-- A list whose beginning is filled. -/
def filled {α : Type} (f : Nat → α) (l : List α) (j : Nat) : List α := (List.range j).map f ++ l.drop j
theorem filled_len {α : Type} (f : Nat → α) (l : List α) {j : Nat} (h : j ≤ l.length) : (filled f l j).length = l.length := by
  unfold filled
  rw [List.length_append, List.length_map, List.length_range, List.length_drop]
  omega
theorem filled_zero {α : Type} (f : Nat → α) (l : List α) : filled f l 0 = l := rfl
theorem filled_all {α : Type} (f : Nat → α) (l : List α) : filled f l l.length = (List.range l.length).map f := by
  unfold filled
  rw [List.drop_length, List.append_nil]
theorem filled_set {α : Type} (f : Nat → α) (l : List α) {j : Nat} (h : j < l.length) : (filled f l j).set j (f j) = filled f l (j + 1) := by
  unfold filled
  have hc : l.drop j = l[j] :: l.drop (j + 1) := List.drop_eq_getElem_cons h
  rw [List.set_append_right _ _ (by rw [List.length_map, List.length_range]; omega), List.length_map, List.length_range, Nat.sub_self, hc, List.set_cons_zero, List.range_succ, List.map_append, List.append_assoc]
  rfl
def marksT (m : Int) (n : Nat) : List Tick := (List.range n).map fun (i : Nat) => (m + 3 * (i : Int), m + 3 * (i : Int) + 1, m + 3 * (i : Int) + 2)
theorem marksT_length (m : Int) (n : Nat) : (marksT m n).length = n := by simp [marksT]
theorem marksT_get (m : Int) {n i : Nat} (h : i < n) : (marksT m n)[i]'(by rw [marksT_length]; exact h) = (m + 3 * (i : Int), m + 3 * (i : Int) + 1, m + 3 * (i : Int) + 2) := by simp [marksT]
def marksO (m : Int) (n : Nat) : List Order := (List.range n).map fun (i : Nat) => (m + 4 * (i : Int), m + 4 * (i : Int) + 1, m + 4 * (i : Int) + 2, m + 4 * (i : Int) + 3)
theorem marksO_length (m : Int) (n : Nat) : (marksO m n).length = n := by simp [marksO]
theorem marksO_get (m : Int) {n i : Nat} (h : i < n) : (marksO m n)[i]'(by rw [marksO_length]; exact h) = (m + 4 * (i : Int), m + 4 * (i : Int) + 1, m + 4 * (i : Int) + 2, m + 4 * (i : Int) + 3) := by simp [marksO]
theorem marks_get' (m : Int) {n i : Nat} (h : i < n) : (marks m n)[i]'(by rw [marks_length]; exact h) = m + (i : Int) := by simp [marks]
theorem tickD_len (p : Pump) (past : List Int) (alarm : Int) (m : Menu) (ts : List Tick) (ref : Int) (i : In) :
    ∃ p' past' alarm' m' ts' ref', tickD p past alarm m ts ref i = dev p' past' alarm' m' ts' ref' ∧ past'.length ≤ past.length + 1 ∧ ts'.length ≤ ts.length + 1 := by
  unfold tickD
  split
  · exact ⟨_, _, _, _, _, _, rfl, pass_length _ _ _, by rw [List.length_append, List.length_singleton]; omega⟩
  · exact ⟨_, _, _, _, _, _, rfl, by omega, by omega⟩
theorem w3 {k : Int} (h0 : 0 ≤ k) (h1 : k ≤ 1000000000) : wrap64 (k + 1) = k + 1 ∧ wrap64 (wrap64 (k + 1) + 1) = k + 2 ∧ wrap64 (wrap64 (wrap64 (k + 1) + 1) + 1) = k + 3 ∧ wrap64 (wrap64 (wrap64 (wrap64 (k + 1) + 1) + 1) + 1) = k + 4 := by
  have e1 : wrap64 (k + 1) = k + 1 := w64s (by omega) (by omega)
  have e2 : wrap64 (k + 1 + 1) = k + 2 := by rw [w64s (by omega) (by omega)]; omega
  have e3 : wrap64 (k + 2 + 1) = k + 3 := by rw [w64s (by omega) (by omega)]; omega
  have e4 : wrap64 (k + 3 + 1) = k + 4 := by rw [w64s (by omega) (by omega)]; omega
  rw [e1, e2, e3, e4]
  exact ⟨rfl, rfl, rfl, rfl⟩
theorem ex_pos {α : Type} {c : Prop} [Decidable c] {a b : Option α} {P : α → Prop} (h : c) (k : ∃ r, a = some r ∧ P r) : ∃ r, (if c then a else b) = some r ∧ P r := by rw [if_pos h]; exact k
theorem ex_neg {α : Type} {c : Prop} [Decidable c] {a b : Option α} {P : α → Prop} (h : ¬ c) (k : ∃ r, b = some r ∧ P r) : ∃ r, (if c then a else b) = some r ∧ P r := by rw [if_neg h]; exact k
theorem ex_bind {α β : Type} {g : Option α} {f : α → Option β} {a : α} {P : β → Prop} (h : g = some a) (k : ∃ r, f a = some r ∧ P r) : ∃ r, g.bind f = some r ∧ P r := by rw [h]; exact k
end Go.Sx
/- Texts with one byte turned. -/
set_option linter.unusedVariables false
set_option linter.unusedSimpArgs false
namespace Go.Sx
open Go.RowKit (wrap64)
theorem ixor8 (a b : Nat) (ha : a < 256) (hb : b < 256) : ixor .u8 (a : Int) (b : Int) = ((a ^^^ b : Nat) : Int) := by
  have e : ixor .u8 (a : Int) (b : Int) = IntKind.u8.wrap (((BitVec.ofInt 8 (a : Int) ^^^ BitVec.ofInt 8 (b : Int)).toNat : Nat) : Int) := rfl
  have h1 : (BitVec.ofInt 8 (a : Int)).toNat = a := by rw [BitVec.ofInt_natCast, BitVec.toNat_ofNat]; omega
  have h2 : (BitVec.ofInt 8 (b : Int)).toNat = b := by rw [BitVec.ofInt_natCast, BitVec.toNat_ofNat]; omega
  have hl : a ^^^ b < 2 ^ 8 := Nat.xor_lt_two_pow ha hb
  rw [e, BitVec.toNat_xor, h1, h2]
  simp [IntKind.wrap, IntKind.signed, IntKind.bits]
  omega
theorem byl_bl (s : ByteArray) : byl s = (bl s).map fun b => (b.toNat : Int) := rfl
theorem turn_val {s : ByteArray} {i : Nat} (hi : i < s.size) {v : Nat} (hv0 : 0 < v) (hv : v < 256) : ∃ y, bl (bstr ((byl s).set i (ixor .u8 ((byl s).getD i 0) (v : Int)))) = (bl s).set i y ∧ (bl s)[i]? ≠ some y := by
  have hl : i < (bl s).length := by rw [bl_len]; exact hi
  have hx := UInt8.toNat_lt (bl s)[i]
  have hlt : (bl s)[i].toNat ^^^ v < 256 := Nat.xor_lt_two_pow (n := 8) hx hv
  refine ⟨UInt8.ofNat ((bl s)[i].toNat ^^^ v), ?_, ?_⟩
  · have e1 : (byl s).getD i 0 = (((bl s)[i].toNat : Nat) : Int) := by
      rw [byl_bl, List.getD_eq_getElem?_getD, List.getElem?_map, List.getElem?_eq_getElem hl]; rfl
    rw [e1, ixor8 _ _ hx hv, bl_bstr, byl_bl, List.map_set, List.map_map, Int.toNat_natCast]
    congr 1
    have e2 : ((fun n : Int => UInt8.ofNat n.toNat) ∘ fun b : UInt8 => ((b.toNat : Nat) : Int)) = id := by
      funext b
      show UInt8.ofNat ((b.toNat : Nat) : Int).toNat = b
      rw [Int.toNat_natCast, UInt8.ofNat_toNat]
    rw [e2, List.map_id]
  · rw [List.getElem?_eq_getElem hl]
    intro h
    have h := Option.some.inj h
    have h2 := congrArg UInt8.toNat h
    rw [UInt8.toNat_ofNat', Nat.mod_eq_of_lt hlt] at h2
    have h3 : 0 ^^^ (bl s)[i].toNat = v ^^^ (bl s)[i].toNat := by
      rw [Nat.zero_xor, Nat.xor_comm v, ← h2]
    have := xor_cancel h3
    omega
theorem tmod_at {x : Int} (h : 0 ≤ x) (n : Nat) : Int.tmod x (n : Int) = ((x.toNat % n : Nat) : Int) := by
  obtain ⟨m, rfl⟩ := Int.eq_ofNat_of_zero_le h
  rw [Int.tmod_eq_emod_of_nonneg (by omega), Int.toNat_natCast]; rfl
theorem turn_wr {x : Int} (h : 0 ≤ x) : wr .u8 (wrap64 (1 + Int.tmod x 255)) = ((1 + x.toNat % 255 : Nat) : Int) := by
  have e : Int.tmod x 255 = ((x.toNat % 255 : Nat) : Int) := tmod_at h 255
  have hb := Nat.mod_lt x.toNat (show 0 < 255 by decide)
  rw [e]
  generalize x.toNat % 255 = z at hb ⊢
  rw [w64 (by omega) (by omega)]
  show (1 + (z : Int)) % 256 = _
  omega
end Go.Sx
/- Orders there and back. -/
set_option linter.unusedVariables false
set_option linter.unusedSimpArgs false
namespace Go.Sx
open Go.RowKit (wrap64)
theorem orderT_ok (o : Order) : (orderT o).2 = orderOk o := by
  by_cases h : orderOk o = true
  · rw [(readO_order h).1, h]
  · unfold orderT
    rw [if_neg h, Bool.eq_false_iff.2 h]
theorem orderT_size (o : Order) : (orderT o).1.size ≤ 11 := by
  by_cases h : orderOk o = true
  · exact (readO_order h).2.1
  · unfold orderT
    rw [if_neg h]
    exact Nat.zero_le _
theorem readO_back {t : ByteArray} (h : (readO t).2 = true) : (orderT (readO t).1).1 = t := by
  by_cases hu : (unsealT t).2 = true ∧ 0 < (unsealT t).1.size
  case neg =>
    unfold readO at h
    rw [if_neg hu] at h
    cases h
  obtain ⟨hz, hj⟩ := unsealT_ok hu.1
  unfold readO at h ⊢
  rw [if_pos hu] at h ⊢
  have h0 := hu.2
  clear hu
  generalize (unsealT t).1 = s at hz hj h h0 ⊢
  by_cases hb : (numberF (numberF (numberF (s, 1, false)).2).2).2.2.2 = true
  · rw [if_pos hb] at h
    cases h
  rw [if_neg hb] at h ⊢
  have hb' : (numberF (numberF (numberF (s, 1, false)).2).2).2.2.2 = false := by simpa using hb
  obtain ⟨N1, N2, N3, e, r1, r2, r3, r4, le, tx⟩ := numberF_three h0 hb'
  rw [r1, r2, r3, r4] at h ⊢
  by_cases hc : (e : Int) = (s.size : Int) ∧ orderOk (byt s 0, (N1 : Int), (N2 : Int), (N3 : Int)) = true
  · rw [if_pos hc]
    unfold orderT
    rw [if_pos hc.2, tx, (seal_same s e hz le).2.2 (Int.ofNat_inj.1 hc.1)]
    exact hj
  · rw [if_neg hc] at h
    cases h
theorem readO_bent {t : ByteArray} (h : (unsealT t).2 = false) : readO t = ((0, 0, 0, 0), false) := by
  unfold readO
  rw [if_neg (fun q => by rw [h] at q; cases q.1)]
theorem orderT_turned {o : Order} (h : orderOk o = true) {t : ByteArray} {i : Nat} {y : UInt8} (hi : i < (orderT o).1.size) (ht : bl t = (bl (orderT o).1).set i y) (hy : (bl (orderT o).1)[i]? ≠ some y) : (unsealT t).2 = false := by
  have h2 := (readO_order h).1
  unfold orderT at h2 hi ht hy
  rw [if_pos h] at h2 hi ht hy
  unfold sealT at h2 hi ht hy
  by_cases hs : 20000 < (otext o).size
  · rw [if_pos hs] at h2
    cases h2
  · rw [if_neg hs] at hi ht hy
    have hi : i < (otext o ++ four (sumOf (otext o))).size := hi
    rw [size_append, four_size] at hi
    exact unseal_turned (by omega) hi ht hy
end Go.Sx
/- One tick of a new device: an order by keys, by the link, by a spoilt link. -/
set_option linter.unusedVariables false
set_option linter.unusedSimpArgs false
namespace Go.Sx
open Go.RowKit (wrap64)
theorem give_state1 {n d r l b g k m : Int} : 1 ≤ (give (1, n, d, r, l, b, g, k) m).1 := by
  unfold give
  simp only []
  split
  · split
    · show (1 : Int) ≤ 2; decide
    · show (1 : Int) ≤ 1; decide
  · show (1 : Int) ≤ 1; decide
theorem told_state {num den vol : Int} (h : orderOk (1, num, den, vol) = true) : 1 ≤ (tick (told num den vol) inE).1 := by
  have e := tick_empty (told_ok h) (by simp) (by omega)
  unfold told
  rw [e]
  exact give_state1
theorem tick_refused {t : ByteArray} (hz : t.size ≠ 0) (h40 : t.size ≤ 40) (h : (readO t).2 = false) : ∃ past ts, tick devNew (0, ⟨#[]⟩, t) = dev (0, 0, 1, 0, 0, 0, 0, 0) past 0 menuNew ts 1 := by
  have e0 : devNew = dev (0, 0, 1, 0, 0, 0, 0, 0) [] 0 menuNew [] 0 := rfl
  have hd0 : deviceOk (0, 0, 1, 0, 0, 0, 0, 0) [] 0 menuNew [] 0 = true := deviceOk_mk pumpNew_ok rfl menuNew_ok (Nat.zero_le _) (by omega)
  have hi : inOk (0, ⟨#[]⟩, t) = true := by
    unfold inOk
    show (senseOk 0 && (decide ((⟨#[]⟩ : ByteArray).size ≤ 20) && decide (t.size ≤ 40))) = true
    rw [decide_eq_true h40]
    rfl
  have ho : ordersOf menuNew (0, ⟨#[]⟩, t) = (menuNew, []) := by
    unfold ordersOf
    show (if (readO t).2 = true then _ else _) = _
    rw [if_neg (by rw [h]; exact Bool.false_ne_true)]
    rfl
  have hb1 : behind (0, 0, 1, 0, 0, 0, 0, 0) menuNew 0 (0, ⟨#[]⟩, t) = ((0, 0, 1, 0, 0, 0, 0, 0), 1) := by
    unfold behind
    rw [ho]
    rw [if_pos ⟨hz, h⟩]
    rfl
  have hs : seenF (ordersOf menuNew (0, ⟨#[]⟩, t)).2 = false := by rw [ho]; rfl
  have hf : feel [] 0 (0, (⟨#[]⟩ : ByteArray), t).1 false = 0 := feel_empty rfl
  have hp : tickP (0, 0, 1, 0, 0, 0, 0, 0) [] 0 = (0, 0, 1, 0, 0, 0, 0, 0) := rfl
  have e := tickD_live hd0 hi (by simp) (by omega)
  rw [hb1, hs, ho, hf, hp] at e
  exact ⟨_, _, e⟩
theorem links_nums (X Y Z : Int) (hX : 0 ≤ X) (hY : 0 ≤ Y) (hZ : 0 ≤ Z) : ∃ num den vol : Nat, wrap64 (1 + Int.tmod X 9) = (den : Int) ∧ wrap64 (3 * wrap64 (1 + Int.tmod X 9)) = ((3 * den : Nat) : Int) ∧ wrap64 (1 + Int.tmod Y (wrap64 (3 * wrap64 (1 + Int.tmod X 9)))) = (num : Int) ∧ wrap64 (1 + Int.tmod Z 90) = (vol : Int) ∧
    1 ≤ den ∧ den ≤ 9 ∧ 1 ≤ num ∧ num ≤ 3 * den ∧ 1 ≤ vol ∧ vol ≤ 90 := by
  have e1 : Int.tmod X 9 = ((X.toNat % 9 : Nat) : Int) := tmod_at hX 9
  have e3 : Int.tmod Z 90 = ((Z.toNat % 90 : Nat) : Int) := tmod_at hZ 90
  have b1 := Nat.mod_lt X.toNat (show 0 < 9 by decide)
  have b3 := Nat.mod_lt Z.toNat (show 0 < 90 by decide)
  generalize X.toNat % 9 = x at e1 b1
  generalize Z.toNat % 90 = z at e3 b3
  have d1 : wrap64 (1 + Int.tmod X 9) = ((1 + x : Nat) : Int) := by rw [e1, w64 (by omega) (by omega)]; omega
  have d3 : wrap64 (3 * wrap64 (1 + Int.tmod X 9)) = ((3 * (1 + x) : Nat) : Int) := by rw [d1, w64 (by omega) (by omega)]; omega
  have e2 := tmod_at hY (3 * (1 + x))
  have b2 := Nat.mod_lt Y.toNat (show 0 < 3 * (1 + x) by omega)
  generalize Y.toNat % (3 * (1 + x)) = y at e2 b2
  refine ⟨1 + y, 1 + x, 1 + z, d1, d3, ?_, ?_, by omega, by omega, by omega, by omega, by omega, by omega⟩
  · rw [d3, e2, w64 (by omega) (by omega)]; omega
  · rw [e3, w64 (by omega) (by omega)]; omega
theorem links_order {num den vol : Nat} (h : 1 ≤ den ∧ den ≤ 9 ∧ 1 ≤ num ∧ num ≤ 3 * den ∧ 1 ≤ vol ∧ vol ≤ 90) : orderOk (1, (num : Int), (den : Int), (vol : Int)) = true := by
  refine decide_eq_true ?_
  unfold OrderOkP
  omega
theorem told_keys {num den vol : Nat} (h : orderOk (1, (num : Int), (den : Int), (vol : Int)) = true) (h1 : num < 10000) (h2 : den < 10000) (h3 : vol < 10000) :
    tick devNew (0, bn [98] ++ decT num ++ bn [10] ++ decT den ++ bn [10] ++ decT vol ++ bn [10], ⟨#[]⟩) = tick (told num den vol) inE := by
  have z1 := decT_size (n := num)
  have z2 := decT_size (n := den)
  have z3 := decT_size (n := vol)
  have ho := pressAll_basal h1 h2 h3
  rw [if_pos h] at ho
  have hz : (bn [98] ++ decT num ++ bn [10] ++ decT den ++ bn [10] ++ decT vol ++ bn [10]).size ≤ 20 := by
    have y1 : (bn [98]).size = 1 := rfl
    have y2 : (bn [10]).size = 1 := rfl
    simp only [size_append]; omega
  generalize bn [98] ++ decT num ++ bn [10] ++ decT den ++ bn [10] ++ decT vol ++ bn [10] = K at ho hz ⊢
  refine tick_told h ?_ rfl ?_ (fun q => absurd rfl q)
  · unfold inOk
    show (senseOk 0 && (decide (K.size ≤ 20) && decide ((⟨#[]⟩ : ByteArray).size ≤ 40))) = true
    rw [decide_eq_true hz]
    rfl
  · unfold ordersOf
    have hr : (readO (⟨#[]⟩ : ByteArray)).2 = false := rfl
    show (if (readO (⟨#[]⟩ : ByteArray)).2 = true then _ else pressAll menuNew K) = _
    rw [hr, if_neg Bool.false_ne_true, ho]
end Go.Sx
