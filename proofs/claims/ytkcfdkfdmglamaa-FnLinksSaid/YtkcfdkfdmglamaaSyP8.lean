/- A life of the device: what is true behind many ticks. -/
import Derived.Test.YtkcfdkfdmglamaaSyP7
set_option linter.unusedVariables false
set_option linter.unusedSimpArgs false
namespace Go.Sx
open Go.RowKit (wrap64)
def pulses (ts : List Tick) : List Int := ts.map (·.1)
theorem pulses_append (a b : List Tick) : pulses (a ++ b) = pulses a ++ pulses b := by unfold pulses; rw [List.map_append]
theorem pulses_len (a : List Tick) : (pulses a).length = a.length := by unfold pulses; rw [List.length_map]
/-! ### sums of parts -/
theorem sum_drop_le {l : List Int} (n : Nat) (h : ∀ x ∈ l, 0 ≤ x) : (l.drop n).sum ≤ l.sum := by
  have e : l.sum = (l.take n).sum + (l.drop n).sum := by
    rw [← List.sum_append, List.take_append_drop]
  have h2 := sum_nonneg (l := l.take n) (fun x hx => h x (List.mem_of_mem_take hx))
  omega
theorem win_snoc {l : List Int} {n : Int} (h0 : ∀ x ∈ l, 0 ≤ x) (hn : 0 ≤ n) (hr : ((l.reverse).take 9).sum + n ≤ 30) (hw : ∀ i, ((l.drop i).take 10).sum ≤ 30) (i : Nat) : (((l ++ [n]).drop i).take 10).sum ≤ 30 := by
  by_cases h1 : i + 10 ≤ l.length
  · have e : ((l ++ [n]).drop i).take 10 = (l.drop i).take 10 := by
      rw [List.drop_append_of_le_length (by omega), List.take_append_of_le_length (by rw [List.length_drop]; omega)]
    rw [e]; exact hw i
  · by_cases h2 : i ≤ l.length
    · have e : ((l ++ [n]).drop i).take 10 = l.drop i ++ [n] := by
        rw [List.drop_append_of_le_length h2, List.take_of_length_le (by rw [List.length_append, List.length_drop, List.length_singleton]; omega)]
      have e2 : ((l.reverse).take 9).sum = (l.drop (l.length - 9)).sum := by
        rw [List.take_reverse, List.sum_reverse]
      have e3 : l.drop i = (l.drop (l.length - 9)).drop (i - (l.length - 9)) := by
        rw [List.drop_drop]; congr 1; omega
      have h3 := sum_drop_le (i - (l.length - 9)) (l := l.drop (l.length - 9)) (fun x hx => h0 x (List.mem_of_mem_drop hx))
      rw [e, List.sum_append, e3]
      simp only [List.sum_cons, List.sum_nil]
      omega
    · rw [List.drop_of_length_le (by rw [List.length_append, List.length_singleton]; omega)]
      simp
/-! ### the pump's count -/
theorem take_given (p : Pump) (o : Order) : (take p o).1.2.2.2.2.2.2.1 = p.2.2.2.2.2.2.1 := by
  obtain ⟨s, n, d, r, l, b, g, k⟩ := p
  obtain ⟨a, c, e, x⟩ := o
  unfold take
  split
  · cases ht : takeR (s, n, d, r, l, b, g, k) (a, c, e, x) with
    | none => rfl
    | some q =>
      show q.2.2.2.2.2.2.1 = g
      simp only [takeR] at ht
      repeat' split at ht
      all_goals first
        | (obtain rfl := Option.some.inj ht; rfl)
        | cases ht
  · rfl
theorem takeL_given : ∀ (os : List Order) (p : Pump) (r : Int), (takeL os p r).1.2.2.2.2.2.2.1 = p.2.2.2.2.2.2.1
  | [], _, _ => rfl
  | o :: os, p, r => by
    have h := takeL_given os (takeO p o).1 (if (takeO p o).2 = true then r else r + 1)
    have e : (takeO p o).1.2.2.2.2.2.2.1 = p.2.2.2.2.2.2.1 := by
      unfold takeO
      split
      · rfl
      · exact take_given p o
    rw [e] at h
    exact h
theorem behind_given (p : Pump) (m : Menu) (ref : Int) (i : In) : (behind p m ref i).1.2.2.2.2.2.2.1 = p.2.2.2.2.2.2.1 := takeL_given _ p ref
theorem allow_range {past : List Int} {al : Int} (q : Pump) (h : guardOk past al = true) : 0 ≤ allow past al (wants q) ∧ allow past al (wants q) ≤ wants q ∧ allow past al (wants q) ≤ 30 - past.sum ∧ (al ≠ 0 → allow past al (wants q) = 0) := by
  have hs := guardOk_sum h
  have hw := wants_range q
  unfold allow
  split <;> omega
theorem not_runs_wants {q : Pump} (h : ¬ runs q = true) : wants q = 0 := by
  obtain ⟨s, n, d, r, l, b, g, k⟩ := q
  simp only [wants]
  rw [if_neg h]
theorem tickP_given {q : Pump} {past : List Int} {al : Int} (hq : pumpOk q = true) (h : guardOk past al = true) (hg : q.2.2.2.2.2.2.1 ≤ 100000000000) : (tickP q past al).2.2.2.2.2.2.1 = q.2.2.2.2.2.2.1 + allow past al (wants q) := by
  obtain ⟨a1, a2, a3, a4⟩ := allow_range q h
  have hw := wants_range q
  unfold tickP
  split
  · rw [give_given q _ hq]
    split
    · have e : giveN q (allow past al (wants q)) = allow past al (wants q) := by unfold giveN; omega
      rw [e]; omega
    · rename_i hr
      have := not_runs_wants hr
      omega
  · rename_i hz
    have := a4 hz
    omega
/-! ### a life -/
structure Life (n : Nat) (d : Device) : Prop where
  ok : DOk d
  len : d.ticks.length = n
  ref0 : 0 ≤ d.refused
  ref : d.refused ≤ 22 * (n : Int)
  past : d.past = ((pulses d.ticks).reverse).take 9
  rng : ∀ x ∈ pulses d.ticks, 0 ≤ x ∧ x ≤ 30
  win : ∀ i, (((pulses d.ticks).drop i).take 10).sum ≤ 30
  stop : stops d.ticks = true
  given : d.pump.2.2.2.2.2.2.1 = (pulses d.ticks).sum
theorem stops_append (a b : List Tick) : stops (a ++ b) = (stops a && stops b) := by simp [stops]
theorem tickD_live {p : Pump} {past : List Int} {alarm : Int} {m : Menu} {ts : List Tick} {ref : Int} {i : In} (h : deviceOk p past alarm m ts ref = true) (hi : inOk i = true) (hl : ts.length ≠ 200) (hr : ref ≤ 999999900) :
    tickD p past alarm m ts ref i = dev (tickP (behind p m ref i).1 past (feel past alarm i.1 (seenF (ordersOf m i).2))) (pass past (feel past alarm i.1 (seenF (ordersOf m i).2)) (allow past (feel past alarm i.1 (seenF (ordersOf m i).2)) (wants (behind p m ref i).1))) (feel past alarm i.1 (seenF (ordersOf m i).2)) (ordersOf m i).1
      (ts ++ [(allow past (feel past alarm i.1 (seenF (ordersOf m i).2)) (wants (behind p m ref i).1), feel past alarm i.1 (seenF (ordersOf m i).2), (tickP (behind p m ref i).1 past (feel past alarm i.1 (seenF (ordersOf m i).2))).1)]) (behind p m ref i).2 := by
  unfold tickD
  rw [if_pos ⟨h, hi, hl, hr⟩]
theorem sum_le_30 {l : List Int} (h : ∀ x ∈ l, 0 ≤ x ∧ x ≤ 30) : 0 ≤ l.sum ∧ l.sum ≤ 30 * l.length := by
  induction l with
  | nil => simp
  | cons x l ih =>
    have := ih (fun y hy => h y (List.mem_cons_of_mem _ hy))
    have := h x List.mem_cons_self
    simp only [List.sum_cons, List.length_cons]
    omega
theorem Life.tick {n : Nat} {d : Device} (h : Life n d) {i : In} (hi : inOk i = true) (hn : n < 150) : Life (n + 1) (tick d i) := by
  obtain ⟨hok, hlen, href0, href, hpast, hrng, hwin, hstop, hgiven⟩ := h
  have hok2 := hok.tick i
  obtain ⟨p, past, alarm, m, ts, ref, rfl, hd⟩ := hok
  have hlen : ts.length = n := hlen
  have href : ref ≤ 22 * (n : Int) := href
  have href0 : 0 ≤ ref := href0
  have hpast : past = ((pulses ts).reverse).take 9 := hpast
  have hrng : ∀ x ∈ pulses ts, 0 ≤ x ∧ x ≤ 30 := hrng
  have hwin : ∀ i, (((pulses ts).drop i).take 10).sum ≤ 30 := hwin
  have hstop : stops ts = true := hstop
  have hgiven : p.2.2.2.2.2.2.1 = (pulses ts).sum := hgiven
  have hs := sum_le_30 hrng
  rw [pulses_len] at hs
  rw [tick_dev] at hok2 ⊢
  rw [tickD_live hd hi (by omega) (by omega)] at hok2 ⊢
  obtain ⟨q1, q2, q3, q4, q5, q6⟩ := deviceOk_den hd
  obtain ⟨b1, b2, b3⟩ := behind_ok (m := m) (ref := ref) q1 hi
  have bg := behind_given p m ref i
  have hg := guardOk_feel i.1 (seenF (ordersOf m i).2) q2
  generalize feel past alarm i.1 (seenF (ordersOf m i).2) = al at *
  generalize (behind p m ref i).1 = q at *
  generalize (behind p m ref i).2 = ref' at *
  obtain ⟨a1, a2, a3, a4⟩ := allow_range q hg
  have htp := tickP_given b1 hg (by omega)
  have hsum := guardOk_sum hg
  have hw := wants_range q
  generalize allow past al (wants q) = N at *
  have ep : pass past al N = (N :: past).take 9 := by
    unfold pass
    rw [if_pos hg]
    have : min (max N 0) (30 - past.sum) = N := by omega
    rw [this]
  have hpl : pulses (ts ++ [(N, al, (tickP q past al).1)]) = pulses ts ++ [N] := by rw [pulses_append]; rfl
  refine ⟨hok2, ?_, ?_, ?_, ?_, ?_, ?_, ?_, ?_⟩
  · show (ts ++ [(N, al, (tickP q past al).1)]).length = n + 1
    rw [List.length_append, List.length_singleton]; omega
  · show 0 ≤ ref'
    omega
  · show ref' ≤ 22 * ((n + 1 : Nat) : Int)
    omega
  · show pass past al N = ((pulses (ts ++ [(N, al, (tickP q past al).1)])).reverse).take 9
    rw [hpl, ep, hpast, List.reverse_append, List.reverse_singleton, List.singleton_append, List.take_succ_cons, List.take_succ_cons, List.take_take]
    rfl
  · show ∀ x ∈ pulses (ts ++ [(N, al, (tickP q past al).1)]), 0 ≤ x ∧ x ≤ 30
    rw [hpl]
    intro x hx
    rcases List.mem_append.1 hx with hx | hx
    · exact hrng x hx
    · rw [List.mem_singleton] at hx; omega
  · show ∀ i, (((pulses (ts ++ [(N, al, (tickP q past al).1)])).drop i).take 10).sum ≤ 30
    rw [hpl]
    exact win_snoc (fun x hx => (hrng x hx).1) a1 (by rw [← hpast]; omega) hwin
  · show stops (ts ++ [(N, al, (tickP q past al).1)]) = true
    rw [stops_append, hstop, stops_cons]
    have : (al = 0 ∨ N = 0) := by
      by_cases hz : al = 0
      · exact .inl hz
      · exact .inr (a4 hz)
    rw [decide_eq_true this]; rfl
  · show (tickP q past al).2.2.2.2.2.2.1 = (pulses (ts ++ [(N, al, (tickP q past al).1)])).sum
    rw [hpl, List.sum_append, htp, bg, hgiven]
    simp
theorem life_new : Life 0 devNew := by
  refine ⟨devNew_ok, rfl, Int.le_refl _, Int.le_refl _, rfl, ?_, ?_, rfl, rfl⟩
  · intro x hx
    have hx : x ∈ ([] : List Int) := hx
    cases hx
  · intro i
    show ((([] : List Int).drop i).take 10).sum ≤ 30
    simp
theorem Life.foldl : ∀ (l : List In) {n : Nat} {d : Device}, Life n d → l.all inOk = true → n + l.length ≤ 150 → Life (n + l.length) (l.foldl Go.Sx.tick d)
  | [], _, _, h, _, _ => h
  | i :: l, n, d, h, hi, hn => by
    have hi : (inOk i && l.all inOk) = true := hi
    rw [Bool.and_eq_true] at hi
    simp only [List.length_cons] at hn
    have := Life.foldl l (h.tick hi.1 (by omega)) hi.2 (by omega)
    rw [List.length_cons, show n + (l.length + 1) = n + 1 + l.length by omega]
    exact this
theorem life_run {l : List In} (hi : l.all inOk = true) (hn : l.length ≤ 150) : Life l.length (l.foldl tick devNew) := by
  have := life_new.foldl l hi (by omega)
  rwa [Nat.zero_add] at this
theorem runD_ok {l : List In} (hi : l.all inOk = true) (hn : l.length ≤ 150) : runD l = (l.foldl tick devNew, true) := by
  unfold runD
  rw [if_neg (by omega), if_pos hi]
/-! ### what a life is sound for -/
theorem addSat_small {a b : Int} (ha : 0 ≤ a ∧ a ≤ 100000000000) (hb : 0 ≤ b ∧ b ≤ 30) : addSat a b = a + b := by
  unfold addSat
  rw [bnd_id (n := a) (by omega), bnd_id (n := b) (by omega), bnd_id (by omega)]
theorem totalF_sum : ∀ (ts : List Tick) (s : Int), (∀ x ∈ pulses ts, 0 ≤ x ∧ x ≤ 30) → 0 ≤ s → s + 30 * (ts.length : Int) ≤ 100000000000 → totalF ts s = s + (pulses ts).sum
  | [], s, _, _, _ => by simp [totalF, pulses]
  | t :: r, s, h, h0, h1 => by
    have ht : 0 ≤ t.1 ∧ t.1 ≤ 30 := h t.1 (by unfold pulses; exact List.mem_cons_self)
    have hr : ∀ x ∈ pulses r, 0 ≤ x ∧ x ≤ 30 := fun x hx => h x (by unfold pulses at hx ⊢; exact List.mem_cons_of_mem _ hx)
    simp only [List.length_cons] at h1
    have e : pulses (t :: r) = t.1 :: pulses r := rfl
    unfold totalF
    rw [addSat_small (by omega) ht, totalF_sum r _ hr (by omega) (by omega), e, List.sum_cons]
    omega
theorem winF_true : ∀ (ts : List Tick) (s : Int), (∀ x ∈ pulses ts, 0 ≤ x ∧ x ≤ 30) → 0 ≤ s → s + (pulses ts).sum ≤ 30 → winF ts s = true
  | [], _, _, _, _ => rfl
  | t :: r, s, h, h0, h1 => by
    have ht : 0 ≤ t.1 ∧ t.1 ≤ 30 := h t.1 (by unfold pulses; exact List.mem_cons_self)
    have hr : ∀ x ∈ pulses r, 0 ≤ x ∧ x ≤ 30 := fun x hx => h x (by unfold pulses at hx ⊢; exact List.mem_cons_of_mem _ hx)
    have e : pulses (t :: r) = t.1 :: pulses r := rfl
    rw [e, List.sum_cons] at h1
    have hs := sum_le_30 hr
    unfold winF
    rw [addSat_small (by omega) ht, if_neg (by omega)]
    exact winF_true r _ hr (by omega) (by omega)
theorem pulses_take (ts : List Tick) (n : Nat) : pulses (ts.take n) = (pulses ts).take n := by unfold pulses; rw [List.map_take]
theorem pulses_drop (ts : List Tick) (n : Nat) : pulses (ts.drop n) = (pulses ts).drop n := by unfold pulses; rw [List.map_drop]
theorem limF_true : ∀ (ts : List Tick), (∀ x ∈ pulses ts, 0 ≤ x ∧ x ≤ 30) → (∀ i, (((pulses ts).drop i).take 10).sum ≤ 30) → limF ts = true
  | [], _, _ => rfl
  | t :: r, h, hw => by
    have hr : ∀ x ∈ pulses r, 0 ≤ x ∧ x ≤ 30 := fun x hx => h x (by unfold pulses at hx ⊢; exact List.mem_cons_of_mem _ hx)
    have ih := limF_true r hr (fun i => by have := hw (i + 1); exact this)
    have h0 := hw 0
    unfold limF
    rw [ih, Bool.and_true]
    refine winF_true _ 0 (fun x hx => ?_) (Int.le_refl _) ?_
    · rw [pulses_take] at hx
      exact h x (List.mem_of_mem_take hx)
    · rw [pulses_take, Int.zero_add]
      exact h0
theorem Life.lim {n : Nat} {d : Device} (h : Life n d) : limF d.ticks = true := limF_true _ h.rng h.win
theorem Life.total {n : Nat} {d : Device} (h : Life n d) (hn : n ≤ 150) : totalF d.ticks 0 = (pulses d.ticks).sum := by
  rw [totalF_sum _ 0 h.rng (Int.le_refl _) (by rw [h.len]; omega), Int.zero_add]
theorem Life.sound {n : Nat} {d : Device} (h : Life n d) (hn : n ≤ 150) : ∃ p past alarm m ts ref, d = dev p past alarm m ts ref ∧ deviceOk p past alarm m ts ref = true ∧ sound p past alarm m ts ref = true := by
  obtain ⟨p, past, alarm, m, ts, ref, rfl, hd⟩ := h.ok
  refine ⟨p, past, alarm, m, ts, ref, rfl, hd, ?_⟩
  have h1 : limF ts = true := h.lim
  have h2 : stops ts = true := h.stop
  have h3 : totalF ts 0 = (pulses ts).sum := h.total hn
  have h4 : p.2.2.2.2.2.2.1 = (pulses ts).sum := h.given
  unfold Go.Sx.sound
  rw [hd, h1, h2, h3, h4]
  simp
end Go.Sx
