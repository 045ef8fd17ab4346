/- A told volume is given. -/
import Derived.Test.YtkcfdkfdmglamaaSyP10
set_option linter.unusedVariables false
set_option linter.unusedSimpArgs false
namespace Go.Sx
open Go.RowKit (wrap64)
def inE : In := (0, ⟨#[]⟩, ⟨#[]⟩)
theorem inE_ok : inOk inE = true := rfl
theorem readO_empty : readO ⟨#[]⟩ = ((0, 0, 0, 0), false) := by
  unfold readO unsealT
  have h : (⟨#[]⟩ : ByteArray).size < 4 := by rw [size_empty]; omega
  rw [if_pos h, if_neg (fun q => by cases q.1)]
theorem ordersOf_empty (m : Menu) : ordersOf m inE = (m, []) := by
  unfold ordersOf
  show (if (readO ⟨#[]⟩).2 = true then _ else pressAll m ⟨#[]⟩) = _
  rw [readO_empty, if_neg (by simp)]
  rfl
theorem behind_empty (p : Pump) (m : Menu) (ref : Int) : behind p m ref inE = (p, ref) := by
  unfold behind
  rw [ordersOf_empty]
  have hz : ¬ (inE.2.2.size ≠ 0 ∧ (readO inE.2.2).2 = false) := fun q => q.1 size_empty
  rw [if_neg hz]
  rfl
theorem feel_empty {past : List Int} (h : guardOk past 0 = true) : feel past 0 0 false = 0 := by
  unfold feel
  rw [if_pos ⟨h, rfl⟩, if_neg (by simp)]
  exact or_zero rfl
theorem tick_empty {p : Pump} {past : List Int} {m : Menu} {ts : List Tick} {ref : Int} (h : deviceOk p past 0 m ts ref = true) (hl : ts.length ≠ 200) (hr : ref ≤ 999999900) :
    tick (dev p past 0 m ts ref) inE = dev (give p (allow past 0 (wants p))) (pass past 0 (allow past 0 (wants p))) 0 m (ts ++ [(allow past 0 (wants p), 0, (give p (allow past 0 (wants p))).1)]) ref := by
  rw [tick_dev, tickD_live h inE_ok hl hr]
  have hg := (deviceOk_den h).2.1
  have e1 : seenF (ordersOf m inE).2 = false := by rw [ordersOf_empty]; rfl
  have e2 : feel past 0 inE.1 false = 0 := feel_empty hg
  rw [e1, e2, behind_empty, ordersOf_empty]
  unfold tickP
  rw [if_pos rfl]
theorem small_sum {l : List Int} (h : ∀ x ∈ l, 0 ≤ x ∧ x ≤ 3) : 0 ≤ l.sum ∧ l.sum ≤ 3 * l.length := by
  induction l with
  | nil => simp
  | cons x l ih =>
    have := ih (fun y hy => h y (List.mem_cons_of_mem _ hy))
    have := h x List.mem_cons_self
    simp only [List.sum_cons, List.length_cons]
    omega
def GivI (num den vol : Int) (j : Nat) (d : Device) : Prop := ∃ s n e r l g past ts, d = dev (s, n, e, r, l, 0, g, 0) past 0 menuNew ts 0 ∧ (∀ x ∈ past, 0 ≤ x ∧ x ≤ 3) ∧
  ((s = 1 ∧ n = num ∧ e = den ∧ r + den * g = (j : Int) * num ∧ l = vol - g ∧ 0 ≤ r ∧ r < den ∧ 0 < l ∧ 0 ≤ g) ∨ (s = 2 ∧ n = 1 ∧ e = 50 ∧ l = 0 ∧ vol ≤ g ∧ 50 * (g - vol) + r ≤ (j : Int) ∧ 0 ≤ r ∧ r < 50))
/-- What the guard lets through of a small want. -/
theorem allow_small {past : List Int} {w : Int} (hg : guardOk past 0 = true) (hp : ∀ x ∈ past, 0 ≤ x ∧ x ≤ 3) (hw : 0 ≤ w ∧ w ≤ 3) : allow past 0 w = w ∧ (∀ x ∈ pass past 0 w, 0 ≤ x ∧ x ≤ 3) := by
  have h1 := (guardOk_den hg).1
  have h2 := small_sum hp
  constructor
  · unfold allow
    rw [if_pos ⟨hg, rfl⟩]
    omega
  · unfold pass
    rw [if_pos hg]
    intro x hx
    have hx := List.mem_of_mem_take hx
    rcases List.mem_cons.1 hx with hx | hx
    · omega
    · exact hp x hx
theorem mul_step {den g G r num r' : Int} {j : Nat} (h : r + den * g = (j : Int) * num) (hd : r + num = den * G + r') : r' + den * (g + G) = ((j + 1 : Nat) : Int) * num := by
  have e1 : ((j + 1 : Nat) : Int) * num = (j : Int) * num + num := by
    rw [Int.natCast_succ, Int.add_mul, Int.one_mul]
  rw [e1, ← h, Int.mul_add]
  omega
theorem GivI.step {num den vol : Int} (hv : 1 ≤ vol ∧ vol ≤ 60) {j : Nat} (hj : j < 150) {d : Device} (h : GivI num den vol j d) (hL : Life j d) : GivI num den vol (j + 1) (tick d inE) := by
  obtain ⟨s, n, e, r, l, g, past, ts, rfl, hp, hc⟩ := h
  have hlen : ts.length = j := hL.len
  have hd : deviceOk (s, n, e, r, l, 0, g, 0) past 0 menuNew ts 0 = true := by
    obtain ⟨p', past', al', m', ts', ref', he, hd⟩ := hL.ok
    have e1 : (s, n, e, r, l, 0, g, 0) = p' := congrArg Device.pump he
    have e2 : past = past' := congrArg Device.past he
    have e3 : (0 : Int) = al' := congrArg Device.alarm he
    have e4 : menuNew = m' := congrArg Device.menu he
    have e5 : ts = ts' := congrArg Device.ticks he
    have e6 : (0 : Int) = ref' := congrArg Device.refused he
    subst e1 e2 e3 e4 e5 e6
    exact hd
  rw [tick_empty hd (by omega) (by omega)]
  obtain ⟨q1, q2, _⟩ := deviceOk_den hd
  have hpok := pumpOk_den q1
  have hs : s = 1 ∨ s = 2 := by
    rcases hc with hc | hc
    · exact .inl hc.1
    · exact .inr hc.1
  have hr : runs (s, n, e, r, l, 0, g, 0) = true := by
    unfold runs
    rw [q1, decide_eq_true hs]; rfl
  have hrate : rateOk n e r = true := decide_eq_true hpok.2.1
  have hrd := rateOk_den hrate
  have hG := stepGives_range hrate hpok.2.2.1
  have hw := wants_runs hr
  have eG : stepGives n e r = (r + n) / e := by unfold stepGives; rw [if_pos hrate]
  have eR : stepRest n e r = (r + n) % e := by unfold stepRest; rw [if_pos hrate]
  have hdm := Int.mul_ediv_add_emod (r + n) e
  have hR1 := Int.emod_nonneg (r + n) (show e ≠ 0 by omega)
  have hR2 := Int.emod_lt_of_pos (r + n) (show 0 < e by omega)
  rw [← eG] at hdm
  rw [← eR] at hdm hR1 hR2
  rcases hc with ⟨rfl, rfl, rfl, hi, rfl, h0, h1, h2, h3⟩ | ⟨rfl, rfl, rfl, rfl, hi, h1, h2, h3⟩
  · have hw : wants (1, n, e, r, vol - g, 0, g, 0) = min (stepGives n e r) (vol - g) := by rw [hw, if_pos rfl]; omega
    obtain ⟨a1, a2⟩ := allow_small (w := wants (1, n, e, r, vol - g, 0, g, 0)) q2 hp (by omega)
    rw [a1]
    have eN : giveN (1, n, e, r, vol - g, 0, g, 0) (wants (1, n, e, r, vol - g, 0, g, 0)) = min (stepGives n e r) (vol - g) := by unfold giveN; omega
    have eB : giveB (1, n, e, r, vol - g, 0, g, 0) (wants (1, n, e, r, vol - g, 0, g, 0)) = 0 := by
      unfold giveB
      rw [eN]
      show min _ (min (0 : Int) 3) = 0
      omega
    have eg : give (1, n, e, r, vol - g, 0, g, 0) (wants (1, n, e, r, vol - g, 0, g, 0)) = (if (1 : Int) = 1 ∧ vol - g - (min (stepGives n e r) (vol - g) - 0) = 0 then (2, 1, 50, 0, 0, 0 - 0, min (g + min (stepGives n e r) (vol - g)) 1000000000000, 0)
       else (1, n, e, stepRest n e r, (if (1 : Int) = 1 then vol - g - (min (stepGives n e r) (vol - g) - 0) else vol - g), 0 - 0, min (g + min (stepGives n e r) (vol - g)) 1000000000000, 0)) := by
      unfold give
      simp only []
      rw [if_pos hr, eN, eB]
    generalize hgv : give (1, n, e, r, vol - g, 0, g, 0) (wants (1, n, e, r, vol - g, 0, g, 0)) = q at *
    by_cases hz : vol - g - (min (stepGives n e r) (vol - g) - 0) = 0
    · rw [if_pos ⟨rfl, hz⟩] at eg
      have e5 : min (g + min (stepGives n e r) (vol - g)) 1000000000000 = vol := by omega
      rw [e5] at eg
      subst eg
      exact ⟨2, 1, 50, 0, 0, vol, _, _, rfl, a2, .inr ⟨rfl, rfl, rfl, rfl, Int.le_refl _, by omega, by omega, by omega⟩⟩
    · rw [if_neg (fun q => hz q.2), if_pos rfl] at eg
      have e5 : min (stepGives n e r) (vol - g) = stepGives n e r := by omega
      rw [e5] at eg hz
      have e6 : min (g + stepGives n e r) 1000000000000 = g + stepGives n e r := by omega
      rw [e6] at eg
      subst eg
      have hms := mul_step hi hdm.symm
      refine ⟨1, n, e, stepRest n e r, vol - g - (stepGives n e r - 0), g + stepGives n e r, _, _, rfl, a2, .inl ⟨rfl, rfl, rfl, hms, by omega, hR1, hR2, by omega, by omega⟩⟩
  · have hw : wants (2, 1, 50, r, 0, 0, g, 0) = stepGives 1 50 r := by
      rw [hw, if_neg (by omega)]
      omega
    obtain ⟨a1, a2⟩ := allow_small (w := wants (2, 1, 50, r, 0, 0, g, 0)) q2 hp (by omega)
    rw [a1]
    have eN : giveN (2, 1, 50, r, 0, 0, g, 0) (wants (2, 1, 50, r, 0, 0, g, 0)) = stepGives 1 50 r := by unfold giveN; omega
    have eB : giveB (2, 1, 50, r, 0, 0, g, 0) (wants (2, 1, 50, r, 0, 0, g, 0)) = 0 := by
      unfold giveB
      rw [eN]
      show min _ (min (0 : Int) 3) = 0
      omega
    have eg : give (2, 1, 50, r, 0, 0, g, 0) (wants (2, 1, 50, r, 0, 0, g, 0)) = (2, 1, 50, stepRest 1 50 r, 0, 0, g + stepGives 1 50 r, 0) := by
      unfold give
      simp only []
      rw [if_pos hr, eN, eB, if_neg (by omega), if_neg (by omega)]
      have e6 : min (g + stepGives 1 50 r) 1000000000000 = g + stepGives 1 50 r := by omega
      rw [e6]
      rfl
    generalize hgv : give (2, 1, 50, r, 0, 0, g, 0) (wants (2, 1, 50, r, 0, 0, g, 0)) = q at *
    subst eg
    refine ⟨2, 1, 50, stepRest 1 50 r, 0, g + stepGives 1 50 r, _, _, rfl, a2, .inr ⟨rfl, rfl, rfl, rfl, by omega, by omega, hR1, hR2⟩⟩
theorem GivI.many {num den vol : Int} (hv : 1 ≤ vol ∧ vol ≤ 60) : ∀ (k : Nat) {j : Nat} {d : Device}, GivI num den vol j d → Life j d → j + k ≤ 150 → GivI num den vol (j + k) ((List.replicate k inE).foldl tick d)
  | 0, _, _, h, _, _ => h
  | k + 1, j, d, h, hL, hk => by
    have := GivI.many hv k (h.step hv (by omega) hL) (hL.tick inE_ok (by omega)) (by omega)
    rw [List.replicate_succ, List.foldl_cons, show j + (k + 1) = j + 1 + k by omega]
    exact this
/-- The first tick: an order by the link. -/
theorem takeR_basal {num den vol : Int} : takeR (0, 0, 1, 0, 0, 0, 0, 0) (1, num, den, vol) = some (1, num, den, 0, vol, 0, 0, 0) := rfl
theorem take_basal {num den vol : Int} (h : orderOk (1, num, den, vol) = true) : take (0, 0, 1, 0, 0, 0, 0, 0) (1, num, den, vol) = ((1, num, den, 0, vol, 0, 0, 0), true) := by
  unfold take
  rw [if_pos ⟨pumpNew_ok, h⟩, takeR_basal]
def told (num den vol : Int) : Device := dev (1, num, den, 0, vol, 0, 0, 0) [] 0 menuNew [] 0
theorem pump_basal {num den vol : Int} (h : orderOk (1, num, den, vol) = true) : pumpOk (1, num, den, 0, vol, 0, 0, 0) = true := by
  have := take_ok (1, num, den, vol) pumpNew_ok
  rw [take_basal h] at this
  exact this
theorem told_ok {num den vol : Int} (h : orderOk (1, num, den, vol) = true) : deviceOk (1, num, den, 0, vol, 0, 0, 0) [] 0 menuNew [] 0 = true :=
  deviceOk_mk (pump_basal h) rfl menuNew_ok (Nat.zero_le _) (by omega)
theorem told_life {num den vol : Int} (h : orderOk (1, num, den, vol) = true) : Life 0 (told num den vol) := by
  refine ⟨⟨_, _, _, _, _, _, rfl, told_ok h⟩, rfl, Int.le_refl _, Int.le_refl _, rfl, ?_, ?_, rfl, rfl⟩
  · intro x hx
    have hx : x ∈ ([] : List Int) := hx
    cases hx
  · intro i
    show ((([] : List Int).drop i).take 10).sum ≤ 30
    simp
theorem told_GivI {num den vol : Int} (h : orderOk (1, num, den, vol) = true) : GivI num den vol 0 (told num den vol) := by
  have hp := orderOk_den h
  unfold OrderOkP at hp
  exact ⟨1, num, den, 0, vol, 0, [], [], rfl, fun x hx => (by cases hx), .inl ⟨rfl, rfl, rfl, by simp, by omega, by omega, by omega, by omega, by omega⟩⟩
/-- What makes one order, and feels nothing, ticks as if the order had been taken. -/
theorem tick_told {num den vol : Int} (h : orderOk (1, num, den, vol) = true) {i : In} (hi : inOk i = true) (hb : i.1 = 0) (ho : ordersOf menuNew i = (menuNew, [(1, num, den, vol)])) (hl : i.2.2.size ≠ 0 → (readO i.2.2).2 = true) : tick devNew i = tick (told num den vol) inE := by
  have e0 : devNew = dev (0, 0, 1, 0, 0, 0, 0, 0) [] 0 menuNew [] 0 := rfl
  have hd0 : deviceOk (0, 0, 1, 0, 0, 0, 0, 0) [] 0 menuNew [] 0 = true := deviceOk_mk pumpNew_ok rfl menuNew_ok (Nat.zero_le _) (by omega)
  have hb1 : behind (0, 0, 1, 0, 0, 0, 0, 0) menuNew 0 i = ((1, num, den, 0, vol, 0, 0, 0), 0) := by
    unfold behind
    rw [ho]
    have hz : ¬ (i.2.2.size ≠ 0 ∧ (readO i.2.2).2 = false) := fun q => by rw [hl q.1] at q; cases q.2
    rw [if_neg hz]
    have ht : takeL [(1, num, den, vol)] (0, 0, 1, 0, 0, 0, 0, 0) 0 = ((1, num, den, 0, vol, 0, 0, 0), 0) := by
      unfold takeL takeL
      have h5 : takeO (0, 0, 1, 0, 0, 0, 0, 0) (1, num, den, vol) = ((1, num, den, 0, vol, 0, 0, 0), true) := by
        unfold takeO
        rw [if_neg (by show ¬ (1 : Int) = 5; omega)]
        exact take_basal h
      rw [h5, if_pos rfl]
    rw [ht]
  have hs : seenF (ordersOf menuNew i).2 = false := by rw [ho]; rfl
  rw [e0, tick_dev, tickD_live hd0 hi (by simp) (by omega), hb1, hs, ho, hb, feel_empty rfl]
  unfold told
  rw [tick_empty (told_ok h) (by simp) (by omega)]
  unfold tickP
  rw [if_pos rfl]
theorem told_link {num den vol : Int} (h : orderOk (1, num, den, vol) = true) : tick devNew (0, ⟨#[]⟩, (orderT (1, num, den, vol)).1) = tick (told num den vol) inE := by
  obtain ⟨h1, h2, h3, h4⟩ := readO_order h
  refine tick_told h ?_ rfl ?_ (fun _ => by rw [h4])
  · have ht : (orderT (1, num, den, vol)).1.size ≤ 40 := by omega
    unfold inOk
    show (senseOk 0 && (decide ((⟨#[]⟩ : ByteArray).size ≤ 20) && decide ((orderT (1, num, den, vol)).1.size ≤ 40))) = true
    rw [decide_eq_true ht]
    rfl
  · unfold ordersOf
    show (if (readO (orderT (1, num, den, vol)).1).2 = true then _ else _) = _
    rw [h4, if_pos rfl]
    rfl
/-- A device that is told a volume gives it. -/
theorem told_all {num den vol : Int} (h : orderOk (1, num, den, vol) = true) (hv : vol ≤ 60) : ∃ s n e r l g past ts, (List.replicate 149 inE).foldl tick (tick devNew (0, ⟨#[]⟩, (orderT (1, num, den, vol)).1)) = dev (s, n, e, r, l, 0, g, 0) past 0 menuNew ts 0 ∧
    Life 150 (dev (s, n, e, r, l, 0, g, 0) past 0 menuNew ts 0) ∧ g ≤ vol + 3 ∧ (vol * den ≤ 140 * num → 0 ≤ g - vol ∧ l = 0) := by
  have hp := orderOk_den h
  unfold OrderOkP at hp
  have hL := told_life h
  have hG := (told_GivI h).many (by omega) 150 hL (by omega)
  have hL2 := hL.foldl (List.replicate 150 inE) (by simp [inE_ok]) (by simp)
  have e : (List.replicate 150 inE).foldl tick (told num den vol) = (List.replicate 149 inE).foldl tick (tick devNew (0, ⟨#[]⟩, (orderT (1, num, den, vol)).1)) := by
    rw [told_link h, List.replicate_succ, List.foldl_cons]
  rw [e, Nat.zero_add] at hG
  rw [e, List.length_replicate, Nat.zero_add] at hL2
  obtain ⟨s, n, e2, r, l, g, past, ts, he, hpast, hc⟩ := hG
  rw [he] at hL2
  refine ⟨s, n, e2, r, l, g, past, ts, he, hL2, ?_, fun hd => ?_⟩
  · rcases hc with ⟨rfl, rfl, rfl, hi, rfl, h0, h1, h2, h3⟩ | ⟨rfl, rfl, rfl, rfl, hi, h1, h2, h3⟩
    · omega
    · omega
  · rcases hc with ⟨rfl, rfl, rfl, hi, rfl, h0, h1, h2, h3⟩ | ⟨rfl, rfl, rfl, rfl, hi, h1, h2, h3⟩
    · exfalso
      have hm : e2 * (g + 1) ≤ vol * e2 := by
        rw [Int.mul_comm vol]
        exact Int.mul_le_mul_of_nonneg_left (by omega) (by omega)
      rw [Int.mul_add, Int.mul_one] at hm
      have hi : r + e2 * g = 150 * n := hi
      generalize e2 * g = X at *
      generalize vol * e2 = Y at *
      omega
    · omega
end Go.Sx
