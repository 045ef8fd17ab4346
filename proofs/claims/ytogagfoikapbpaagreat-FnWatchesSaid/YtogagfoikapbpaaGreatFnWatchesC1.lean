/- Functions of the program as functions of Lean, and that the program keeps to them. -/
import Derived.Test.YtogagfoikapbpaaGreatFnWatchesC0
set_option maxRecDepth 100000
set_option linter.unusedVariables false
set_option linter.unusedSimpArgs false
namespace Go.Proofs
end Go.Proofs
namespace Go.Sx.T
open Go Go.Sx Go.Proofs Go.RowKit
/- spec_TickDevice -/
theorem takeL_shift : ∀ (os : List Order) (p : Pump) (r : Int), takeL os p (r + 1) = ((takeL os p r).1, (takeL os p r).2 + 1)
  | [], _, _ => rfl
  | o :: os, p, r => by
    unfold takeL
    by_cases h : (takeO p o).2 = true
    · rw [if_pos h, if_pos h]
      exact takeL_shift os _ r
    · rw [if_neg h, if_neg h]
      exact takeL_shift os _ (r + 1)
def finS (past : List Int) (alarm : Int) (m' : Menu) (ts : List Tick) (b : Int) (sn : Bool) (q : Pump) (r : Int) : Device :=
  dev (tickP q past (feel past alarm b sn)) (pass past (feel past alarm b sn) (allow past (feel past alarm b sn) (wants q))) (feel past alarm b sn) m' (ts ++ [(allow past (feel past alarm b sn) (wants q), feel past alarm b sn, (tickP q past (feel past alarm b sn)).1)]) r
set_option maxHeartbeats 2000000 in
theorem spec_TickDevice_eq (p : Pump) (past : List Int) (alarm : Int) (m : Menu) (ts : List Tick) (ref : Int) (i : In) (hp : past.length ≤ 1048580) (hm : m.2.2.2.2.size ≤ 1048580) (ht : ts.length ≤ 1048580) :
    g_spec_TickDevice (dev p past alarm m ts ref, i) = some (tickD p past alarm m ts ref i) := by
  refine evG_eq ?_
  obtain ⟨a, b, n, d, s⟩ := m
  have hm : s.size ≤ 1048580 := hm
  have e1 := spec_l18Copy_eq p past alarm (a, b, n, d, s) ts ref hp ht
  have e2 := spec_DeviceOk_eq p past alarm (a, b, n, d, s) ts ref (by omega) hm
  have e3 := spec_InOk_eq i
  unfold spec_TickDevice_ tickD
  refine ev_bind e1 (ev_bind e2 ?_)
  by_cases hd : deviceOk p past alarm (a, b, n, d, s) ts ref = true
  case neg =>
    rw [if_neg (fun q => hd q.1)]
    exact ev_neg hd ev_some
  refine ev_pos hd (ev_bind e3 ?_)
  by_cases hi : inOk i = true
  case neg =>
    rw [if_neg (fun q => hi q.2.1)]
    exact ev_neg hi ev_some
  refine ev_pos hi ?_
  by_cases h2 : ts.length = 200
  case pos =>
    rw [if_neg (fun q => q.2.2.1 h2)]
    exact ev_pos (by omega) ev_some
  refine ev_neg (by omega) ?_
  by_cases h9 : ref ≤ 999999900
  case neg =>
    rw [if_neg (fun q => h9 q.2.2.2)]
    exact ev_pos (by omega) ev_some
  refine ev_neg (by omega) ?_
  rw [if_pos ⟨hd, hi, h2, h9⟩]
  obtain ⟨i1, i2, i3⟩ := inOk_den hi
  obtain ⟨q1, q2, q3, q4, q5, q6⟩ := deviceOk_den hd
  have e4 := spec_PressAll_eq (a, b, n, d, s) i.2.1 hm (by omega)
  have e5 := spec_ReadOrder_eq i.2.2 (by omega)
  have hlen := pressAll_len (a, b, n, d, s) i.2.1
  refine ev_bind e4 ?_
  have key : ∀ (os : List Order), os.length ≤ 1048580 → ∀ (m' : Menu) (d2 j : Nat), j + d2 = os.length → ∀ (sn : Bool) (q : Pump) (r : Int), 0 ≤ r → r ≤ 999999901 + (j : Int) →
      Ev (fun k => spec_TickDevice_L13 (fun _ => g_spec_Allow) (fun _ => g_spec_DeviceOk) (fun _ => g_spec_Feel) (fun _ => g_spec_Give) (fun _ => g_spec_InOk) (fun _ => g_spec_Pass) (fun _ => g_spec_PressAll) (fun _ => g_spec_ReadOrder) (fun _ => g_spec_Take) (fun _ => g_spec_Wants) (fun _ => g_spec_l18Copy) k
        (sn, (j : Int), past, ts, p.1, p.2.1, p.2.2.1, p.2.2.2.1, p.2.2.2.2.1, p.2.2.2.2.2.1, p.2.2.2.2.2.2.1, p.2.2.2.2.2.2.2, alarm, a, b, n, d, s, ref, i.1, i.2.1, i.2.2, 0, 0, 0, 0, 0, 0, 0, 0, 0, 0, false, 0, 0, (⟨#[]⟩ : ByteArray), 0, q.1, q.2.1, q.2.2.1, q.2.2.2.1, q.2.2.2.2.1, q.2.2.2.2.2.1, q.2.2.2.2.2.2.1, q.2.2.2.2.2.2.2, alarm, m'.1, m'.2.1, m'.2.2.1, m'.2.2.2.1, m'.2.2.2.2, r, os, [], [], past, ts, ()))
        (finS past alarm m' ts i.1 (sn || seenF (os.drop j)) (takeL (os.drop j) q r).1 (takeL (os.drop j) q r).2) := by
    intro os hos m' d2
    induction d2 with
    | zero =>
      intro j hj sn q r hr0 hr
      have ej : os.drop j = [] := List.drop_eq_nil_of_le (by omega)
      rw [ej]
      have e0 : (sn || seenF []) = sn := by cases sn <;> rfl
      rw [e0]
      simp only [takeL]
      refine Ev.step (fun w => by rw [spec_TickDevice_L13]) ?_
      refine ev_neg (by omega) (ev_bind (spec_Feel_eq past alarm i.1 sn (by omega)) (ev_bind (spec_Wants_eq q) (ev_bind (spec_Allow_eq past (feel past alarm i.1 sn) (wants q) (by omega)) (ev_dom (fun ha => ?_) (fun ha => ?_)))))
      · refine ev_bind (spec_Give_eq q _) (ev_bind (spec_Pass_eq past _ _ (by omega)) (ev_pos (by simp only [List.length_singleton]; omega) (ev_eq ?_)))
        have ha : feel past alarm i.1 sn = 0 := ha
        unfold finS tickP
        rw [if_pos ha]
        rfl
      · refine ev_bind (spec_Pass_eq past _ _ (by omega)) (ev_pos (by simp only [List.length_singleton]; omega) (ev_eq ?_))
        have ha : ¬ feel past alarm i.1 sn = 0 := ha
        unfold finS tickP
        rw [if_neg ha]
        rfl
    | succ d2 ih =>
      intro j hj sn q r hr0 hr
      have hlt : j < os.length := by omega
      have hc : os.drop j = os[j] :: os.drop (j + 1) := List.drop_eq_getElem_cons hlt
      rw [hc]
      simp only [takeL]
      have hsn : ∀ c : Bool, (sn || seenF (os[j] :: os.drop (j + 1))) = ((sn || decide (os[j].1 = 5)) || seenF (os.drop (j + 1))) := fun _ => by
        rw [Bool.or_assoc]; rfl
      rw [hsn true]
      refine Ev.step (fun w => by rw [spec_TickDevice_L13]) ?_
      refine ev_pos (by omega) (ev_pos (by omega) (ev_pos (by omega) ?_))
      rw [getD_drop hc, w64_succ (by omega)]
      refine ev_dom (fun h5 => ?_) (fun h5 => ?_)
      · have ht : takeO q os[j] = (q, true) := by unfold takeO; rw [if_pos h5]
        rw [decide_eq_true h5, Bool.or_true, ht]
        simp only [if_true]
        exact ih (j + 1) (by omega) true q r hr0 (by omega)
      · have ht : takeO q os[j] = take q os[j] := by unfold takeO; rw [if_neg h5]
        rw [decide_eq_false h5, Bool.or_false, ht]
        refine ev_pos (by omega) (ev_pos (by omega) (ev_bind (spec_Take_eq q os[j]) (ev_dom (fun hb => ?_) (fun hb => ?_))))
        · have hb : (take q os[j]).2 = true := hb
          rw [if_pos hb]
          exact ih (j + 1) (by omega) sn (take q os[j]).1 r hr0 (by omega)
        · have hb : ¬ (take q os[j]).2 = true := hb
          rw [if_neg hb]
          have ew : wrap64 (r + 1) = r + 1 := w64 (by omega) (by omega)
          simp only [ew]
          exact ih (j + 1) (by omega) sn (take q os[j]).1 (r + 1) (by omega) (by omega)
  unfold behind
  by_cases hz : i.2.2 = ⟨#[]⟩
  · have hz2 : i.2.2.size = 0 := (eq_empty _).1 hz
    have hk2 : ¬ (i.2.2.size ≠ 0 ∧ (readO i.2.2).2 = false) := fun w => w.1 hz2
    have ho : ordersOf (a, b, n, d, s) i = pressAll (a, b, n, d, s) i.2.1 := by
      unfold ordersOf
      rw [hz, readO_empty, if_neg (by simp)]
    rw [if_neg hk2, ho]
    refine ev_pos hz ?_
    exact key (pressAll (a, b, n, d, s) i.2.1).2 (by omega) (pressAll (a, b, n, d, s) i.2.1).1 _ 0 (Nat.zero_add _) false p ref q5 (by omega)
  · have hz2 : i.2.2.size ≠ 0 := fun w => hz ((eq_empty _).2 w)
    refine ev_neg hz (ev_bind e5 ?_)
    by_cases hk : (readO i.2.2).2 = true
    · have hk2 : ¬ (i.2.2.size ≠ 0 ∧ (readO i.2.2).2 = false) := fun w => by rw [hk] at w; cases w.2
      have ho : ordersOf (a, b, n, d, s) i = ((pressAll (a, b, n, d, s) i.2.1).1, (pressAll (a, b, n, d, s) i.2.1).2 ++ [(readO i.2.2).1]) := by
        unfold ordersOf
        rw [if_pos hk]
      rw [if_neg hk2, ho]
      refine ev_pos hk (ev_pos (by simp only [List.length_singleton]; omega) ?_)
      exact key ((pressAll (a, b, n, d, s) i.2.1).2 ++ [(readO i.2.2).1]) (by simp only [List.length_append, List.length_singleton]; omega) (pressAll (a, b, n, d, s) i.2.1).1 _ 0 (Nat.zero_add _) false p ref q5 (by omega)
    · have hk2 : i.2.2.size ≠ 0 ∧ (readO i.2.2).2 = false := ⟨hz2, by simpa using hk⟩
      have ho : ordersOf (a, b, n, d, s) i = pressAll (a, b, n, d, s) i.2.1 := by
        unfold ordersOf
        rw [if_neg hk]
      rw [if_pos hk2, ho]
      have hw : wrap64 (ref + 1) = ref + 1 := w64 (by omega) (by omega)
      have hsh := takeL_shift (pressAll (a, b, n, d, s) i.2.1).2 p ref
      have hkey := key (pressAll (a, b, n, d, s) i.2.1).2 (by omega) (pressAll (a, b, n, d, s) i.2.1).1 _ 0 (Nat.zero_add _) false p (ref + 1) (by omega) (by omega)
      rw [List.drop_zero, hsh] at hkey
      rw [← hw] at hkey
      exact ev_neg hk hkey
/- spec_DeviceNew -/
theorem spec_DeviceNew_eq : g_spec_DeviceNew () = some devNew := by
  unfold g_spec_DeviceNew spec_DeviceNew_
  have e1 := spec_MenuNew_eq
  have e2 := spec_PumpNew_eq
  simp only [e1, e2, Option.bind_some]
  rfl
/- spec_RunDevice -/
set_option maxHeartbeats 1000000 in
theorem spec_RunDevice_eq (l : List In) (hl : l.length ≤ 1048580) : g_spec_RunDevice l = some (runD l) := by
  refine evG_eq ?_
  unfold spec_RunDevice_
  have run : ∀ (d2 j : Nat), j + d2 = l.length → ∀ d : Device, DOk d →
      Ev (fun k => spec_RunDevice_L10 (fun _ => g_spec_DeviceNew) (fun _ => g_spec_InOk) (fun _ => g_spec_TickDevice) k ((j : Int), l, 0, 0, 0, 0, 0, 0, 0, 0, 0, 0, false, 0, 0, (⟨#[]⟩ : ByteArray), 0, d.1, d.2.1, d.2.2.1, d.2.2.2.1, d.2.2.2.2.1, d.2.2.2.2.2.1, d.2.2.2.2.2.2.1, d.2.2.2.2.2.2.2.1, d.2.2.2.2.2.2.2.2.2.1, d.2.2.2.2.2.2.2.2.2.2.1, d.2.2.2.2.2.2.2.2.2.2.2.1, d.2.2.2.2.2.2.2.2.2.2.2.2.1, d.2.2.2.2.2.2.2.2.2.2.2.2.2.1, d.2.2.2.2.2.2.2.2.2.2.2.2.2.2.1, d.2.2.2.2.2.2.2.2.2.2.2.2.2.2.2.2, [], [], d.2.2.2.2.2.2.2.2.1, d.2.2.2.2.2.2.2.2.2.2.2.2.2.2.2.1, ())) ((l.drop j).foldl tick d, true) := by
    intro d2
    induction d2 with
    | zero =>
      intro j hj d hd
      have ej : l.drop j = [] := List.drop_eq_nil_of_le (by omega)
      rw [ej]
      refine Ev.step (fun w => by rw [spec_RunDevice_L10]) ?_
      exact ev_neg (by omega) (ev_eq rfl)
    | succ d2 ih =>
      intro j hj d hd
      have hlt : j < l.length := by omega
      have hc : l.drop j = l[j] :: l.drop (j + 1) := List.drop_eq_getElem_cons hlt
      rw [hc]
      refine Ev.step (fun w => by rw [spec_RunDevice_L10]) ?_
      refine ev_pos (by omega) (ev_pos (by omega) (ev_pos (by omega) ?_))
      rw [getD_drop hc, w64_succ (by omega)]
      have hq : g_spec_TickDevice (d, l[j]) = some (tick d l[j]) := by
        obtain ⟨p, past, alarm, m, ts, ref, rfl, hk⟩ := hd
        obtain ⟨_, h2, h3, h4, _, _⟩ := deviceOk_den hk
        have h5 := menu_size h3
        have h6 := (guardOk_den h2).1
        rw [tick_dev]
        exact spec_TickDevice_eq p past alarm m ts ref l[j] (by omega) (by omega) (by omega)
      refine ev_bind hq ?_
      exact ih (j + 1) (by omega) (tick d l[j]) (hd.tick _)
  have all : ∀ (d2 j : Nat), j + d2 = l.length → ∀ ok : Bool,
      Ev (fun k => spec_RunDevice_L3 (fun _ => g_spec_DeviceNew) (fun _ => g_spec_InOk) (fun _ => g_spec_TickDevice) k (ok, (j : Int), l, 0, 0, 0, 0, 0, 0, 0, 0, 0, 0, false, 0, 0, (⟨#[]⟩ : ByteArray), 0, [], [], ())) (if (ok && (l.drop j).all inOk) = true then (l.foldl tick devNew, true) else (devZero, false)) := by
    intro d2
    induction d2 with
    | zero =>
      intro j hj ok
      have ej : l.drop j = [] := List.drop_eq_nil_of_le (by omega)
      rw [ej]
      refine Ev.step (fun w => by rw [spec_RunDevice_L3]) ?_
      cases ok with
      | true =>
        have ht : (true && ([] : List In).all inOk) = true := rfl
        rw [if_pos ht]
        exact ev_neg (by omega) (ev_pos rfl (ev_bind spec_DeviceNew_eq (run l.length 0 (by omega) devNew devNew_ok)))
      | false =>
        have ht : ¬ (false && ([] : List In).all inOk) = true := by simp
        rw [if_neg ht]
        exact ev_neg (by omega) (ev_neg (by simp) (ev_eq rfl))
    | succ d2 ih =>
      intro j hj ok
      have hlt : j < l.length := by omega
      have hc : l.drop j = l[j] :: l.drop (j + 1) := List.drop_eq_getElem_cons hlt
      rw [hc]
      refine Ev.step (fun w => by rw [spec_RunDevice_L3]) ?_
      cases ok with
      | true =>
        refine ev_pos (by omega) (ev_pos rfl (ev_pos (by omega) (ev_pos (by omega) ?_)))
        rw [getD_drop hc, w64_succ (by omega)]
        refine ev_bind (spec_InOk_eq l[j]) ?_
        have e : (true && (l[j] :: l.drop (j + 1)).all inOk) = (inOk l[j] && (l.drop (j + 1)).all inOk) := rfl
        rw [e]
        exact ih (j + 1) (by omega) (inOk l[j])
      | false =>
        have ht : ¬ (false && (l[j] :: l.drop (j + 1)).all inOk) = true := by simp
        rw [if_neg ht]
        exact ev_pos (by omega) (ev_neg (by simp) (ev_neg (by simp) (ev_eq rfl)))
  have h := all l.length 0 (by omega) (decide (((List.length l : Nat) : Int) ≤ 150))
  refine Ev.cast h ?_
  unfold runD
  rw [List.drop_zero]
  by_cases h1 : 150 < l.length
  · rw [if_pos h1, decide_eq_false (by omega), if_neg (by simp)]
  · rw [if_neg h1, decide_eq_true (by omega), Bool.true_and]
/- spec_l18Device -/
theorem runD_drawn {l : List In} (hok : l.all inOk = true) (h : l.length ≤ 120) : ∃ p past alarm m ts ref, runD l = (dev p past alarm m ts ref, true) ∧ past.length ≤ 9 ∧ m.2.2.2.2.size ≤ 4 ∧ ts.length = l.length ∧ deviceOk p past alarm m ts ref = true ∧ sound p past alarm m ts ref = true := by
  have hL := life_run hok (by omega)
  obtain ⟨p, past, alarm, m, ts, ref, he, hd, hs⟩ := hL.sound (by omega)
  have hlen : ts.length = l.length := by have := hL.len; rw [he] at this; exact this
  obtain ⟨_, h2, h3, h4, _, _⟩ := deviceOk_den hd
  exact ⟨p, past, alarm, m, ts, ref, by rw [runD_ok hok (by omega), he], (guardOk_den h2).1, menu_size h3, hlen, hd, hs⟩
theorem l18Device_some (S : List Int) (i s : Int) (C : List Int) (hS : S.length ≤ 1048576) (hi : 0 ≤ i) (hC : C.length ≤ 1048576) : ∃ p past alarm m ts ref i' s', g_spec_l18Device ((S, i, s), C) = some (dev p past alarm m ts ref, ((), i', s')) ∧ past.length ≤ 9 ∧ m.2.2.2.2.size ≤ 4 ∧ 10 ≤ ts.length ∧ ts.length ≤ 120 ∧ 0 ≤ i' := by
  obtain ⟨l, i1, s1, e0, hok, h10, h120, hi1⟩ := l18Ins_some S i s C hS hi hC
  obtain ⟨p, past, alarm, m, ts, ref, er, b1, b2, b3, _, _⟩ := runD_drawn hok h120
  have e1 := spec_RunDevice_eq l (by omega)
  rw [er] at e1
  unfold g_spec_l18Device spec_l18Device_
  simp only [e0, e1, Option.bind_some]
  exact ⟨p, past, alarm, m, ts, ref, _, _, rfl, b1, b2, by omega, by omega, hi1⟩
/- spec_l18Any -/
theorem l18Any_loop (S : List Int) (hS : S.length ≤ 1048576) (q : Bool) (p : Pump) (past : List Int) (alarm : Int) (m : Menu) (ref : Int) : ∀ (d : Nat) (ts : List Tick), ts.length + d = 202 → ∀ (i s : Int), 0 ≤ i →
    ∃ ts' i' s', Ev (fun k => spec_l18Any_L12 (fun _ => g_spec_l01Below) (fun _ => g_spec_l01PickInt) (fun _ => g_spec_l15Any) (fun _ => g_spec_l16Any) (fun _ => g_spec_l17Menu) (fun _ => g_spec_l18Copy) (fun _ => g_spec_l18Device) k (q, i, s, S, 0, 0, 0, 0, 0, 0, 0, 0, 0, 0, false, 0, 0, (⟨#[]⟩ : ByteArray), 0, p.1, p.2.1, p.2.2.1, p.2.2.2.1, p.2.2.2.2.1, p.2.2.2.2.2.1, p.2.2.2.2.2.2.1, p.2.2.2.2.2.2.2, alarm, m.1, m.2.1, m.2.2.1, m.2.2.2.1, m.2.2.2.2, ref, [], [], past, ts, ())) (dev p past alarm m ts' ref, ((), i', s')) ∧ ts'.length ≤ 202 ∧ 0 ≤ i' := by
  intro d
  induction d with
  | zero =>
    intro ts hts i s hi
    obtain ⟨v, i1, s1, e1, v1, v2, hi1⟩ := l01Below_some S i s 3 hS hi (by omega)
    refine ⟨ts, i1, s1, Ev.step (fun w => by rw [spec_l18Any_L12]) ?_, by omega, hi1⟩
    refine ev_bind e1 (ev_neg ?_ (ev_eq rfl))
    show ¬ ((ts.length : Nat) : Int) < wrap64 (199 + v)
    rw [w64 (by omega) (by omega)]; omega
  | succ d ih =>
    intro ts hts i s hi
    obtain ⟨v, i1, s1, e1, v1, v2, hi1⟩ := l01Below_some S i s 3 hS hi (by omega)
    by_cases c : ((ts.length : Nat) : Int) < wrap64 (199 + v)
    · obtain ⟨ts', i', s', h, b, hi'⟩ := ih (ts ++ [(0, (0, 0))]) (by simp only [List.length_append, List.length_singleton]; omega) i1 s1 hi1
      refine ⟨ts', i', s', Ev.step (fun w => by rw [spec_l18Any_L12]) ?_, b, hi'⟩
      exact ev_bind e1 (ev_pos c (ev_pos (by simp only [List.length_singleton]; omega) h))
    · refine ⟨ts, i1, s1, Ev.step (fun w => by rw [spec_l18Any_L12]) ?_, by omega, hi1⟩
      exact ev_bind e1 (ev_neg c (ev_eq rfl))
theorem l18Any_some (S : List Int) (i s : Int) (C : List Int) (hS : S.length ≤ 1048576) (hi : 0 ≤ i) (hC : C.length ≤ 1048576) : ∃ p past alarm m ts ref i' s', g_spec_l18Any ((S, i, s), C) = some (dev p past alarm m ts ref, ((), i', s')) ∧ past.length ≤ 1000 ∧ m.2.2.2.2.size ≤ 1048580 ∧ ts.length ≤ 1000 ∧ 0 ≤ i' := by
  obtain ⟨p, past, alarm, m, ts, ref, i1, s1, e0, b1, b2, b3, b4, hi1⟩ := l18Device_some S i s C hS hi hC
  have e1 := spec_l18Copy_eq p past alarm m ts ref (by omega) (by omega)
  obtain ⟨x, i2, s2, e2, _, _, hi2⟩ := l01Below_some S i1 s1 12 hS hi1 (by omega)
  by_cases c0 : x = 0
  · obtain ⟨p', i3, s3, e3, hi3⟩ := l15Any_some S i2 s2 hS hi2
    refine ⟨p', past, alarm, m, ts, ref, i3, s3, evG_eq ?_, by omega, by omega, by omega, hi3⟩
    unfold spec_l18Any_
    exact ev_bind e0 (ev_bind e1 (ev_bind e2 (ev_pos c0 (ev_bind e3 (ev_eq rfl)))))
  by_cases c1 : x = 1
  · obtain ⟨l', a', i3, s3, e3, hl, hi3⟩ := l16Any_some S i2 s2 hS hi2
    refine ⟨p, l', a', m, ts, ref, i3, s3, evG_eq ?_, by omega, by omega, by omega, hi3⟩
    unfold spec_l18Any_
    exact ev_bind e0 (ev_bind e1 (ev_bind e2 (ev_neg c0 (ev_pos c1 (ev_bind e3 (ev_eq rfl))))))
  by_cases c2 : x = 2
  · obtain ⟨m', i3, s3, e3, hm, hi3⟩ := l17Menu_some S i2 s2 hS hi2
    refine ⟨p, past, alarm, m', ts, ref, i3, s3, evG_eq ?_, by omega, hm, by omega, hi3⟩
    unfold spec_l18Any_
    exact ev_bind e0 (ev_bind e1 (ev_bind e2 (ev_neg c0 (ev_neg c1 (ev_pos c2 (ev_bind e3 (ev_eq rfl)))))))
  by_cases c3 : x = 3
  · obtain ⟨r', i3, s3, e3, _, hi3⟩ := l01PickInt_some S i2 s2 [(-1), 999999900, 1000000000] hS hi2 (by decide)
    refine ⟨p, past, alarm, m, ts, r', i3, s3, evG_eq ?_, by omega, by omega, by omega, hi3⟩
    unfold spec_l18Any_
    exact ev_bind e0 (ev_bind e1 (ev_bind e2 (ev_neg c0 (ev_neg c1 (ev_neg c2 (ev_pos c3 (ev_bind e3 (ev_eq rfl))))))))
  by_cases c4 : x = 4
  · obtain ⟨ts', i3, s3, h, hl, hi3⟩ := l18Any_loop S hS (decide (x = 4)) p past alarm m ref (202 - ts.length) ts (by omega) i2 s2 hi2
    refine ⟨p, past, alarm, m, ts', ref, i3, s3, evG_eq ?_, by omega, by omega, by omega, hi3⟩
    unfold spec_l18Any_
    exact ev_bind e0 (ev_bind e1 (ev_bind e2 (ev_neg c0 (ev_neg c1 (ev_neg c2 (ev_neg c3 (ev_pos c4 h)))))))
  refine ⟨p, past, alarm, m, ts, ref, i2, s2, evG_eq ?_, by omega, by omega, by omega, hi2⟩
  unfold spec_l18Any_
  exact ev_bind e0 (ev_bind e1 (ev_bind e2 (ev_neg c0 (ev_neg c1 (ev_neg c2 (ev_neg c3 (ev_neg c4 (ev_eq rfl))))))))
/- spec_DrawSoundDevice -/
theorem spec_DrawSoundDevice_some (S : List Int) (hS : S.length ≤ 1048576) : ∃ p past alarm m ts ref, g_spec_DrawSoundDevice S = some (dev p past alarm m ts ref) ∧ past.length ≤ 1000 ∧ m.2.2.2.2.size ≤ 1048580 ∧ ts.length ≤ 1000 := by
  obtain ⟨x0, hx⟩ := l01New_ev S hS
  obtain ⟨p, past, alarm, m, ts, ref, i1, s1, e0, b1, b2, b3, hi1⟩ := l18Any_some S 0 x0 S hS (by omega) hS
  by_cases h0 : 0 < ((ts.length : Nat) : Int)
  case neg =>
    refine ⟨p, past, alarm, m, ts, ref, ?_, b1, b2, b3⟩
    unfold g_spec_DrawSoundDevice spec_DrawSoundDevice_
    simp only [hx, e0, Option.bind_some]
    exact if_neg h0
  obtain ⟨b, i2, s2, e2, hi2⟩ := l01Once_some S i1 s1 4 hS hi1 (by omega)
  cases b with
  | false =>
    refine ⟨p, past, alarm, m, ts, ref, ?_, b1, b2, b3⟩
    unfold g_spec_DrawSoundDevice spec_DrawSoundDevice_
    simp only [hx, e0, e2, Option.bind_some]
    exact (if_pos h0).trans (if_neg Bool.false_ne_true)
  | true =>
    obtain ⟨x, i3, s3, e3, x1, x2, hi3⟩ := l01Below_some S i2 s2 ((ts.length : Nat) : Int) hS hi2 h0
    obtain ⟨z, i4, s4, e4, _, _⟩ := l01PickInt_some S i3 s3 [0, 1, 31] hS hi3 (by decide)
    refine ⟨p, past, alarm, m, ts.set x.toNat (z, (ts.getD x.toNat (0, (0, 0))).2), ref, ?_, b1, b2, by rw [List.length_set]; exact b3⟩
    unfold g_spec_DrawSoundDevice spec_DrawSoundDevice_
    simp only [hx, e0, e2, Option.bind_some]
    dsimp only [dev]
    refine (if_pos h0).trans ((if_pos trivial).trans ?_)
    simp only [e3, e4, Option.bind_some]
    exact (if_pos x1).trans (if_pos x2)
/- spec_DrawLatched -/
theorem set_sizes {l : List In} {x z : Int} (hsz : ∀ x ∈ l, x.2.1.size ≤ 1048576 ∧ x.2.2.size ≤ 1048576) (x1 : 0 ≤ x) (x2 : x < ((l.length : Nat) : Int)) : ∀ w ∈ l.set x.toNat (z, (l.getD x.toNat (0, ((⟨#[]⟩ : ByteArray), (⟨#[]⟩ : ByteArray)))).2), w.2.1.size ≤ 1048576 ∧ w.2.2.size ≤ 1048576 := by
  intro w hw
  rcases List.mem_or_eq_of_mem_set hw with h | h
  · exact hsz w h
  · obtain ⟨n, rfl⟩ : ∃ n : Nat, x = (n : Int) := ⟨x.toNat, by omega⟩
    have hn : n < l.length := by omega
    rw [getD_lt hn] at h
    rw [h]
    exact hsz l[n] (List.getElem_mem hn)
theorem spec_DrawLatched_ex (S : List Int) (hS : S.length ≤ 1048576) : ∃ r : List Tick × List In, g_spec_DrawLatched S = some r ∧ (r.1.length ≤ 1000 ∧ ∀ x ∈ r.2, x.2.1.size ≤ 1048576 ∧ x.2.2.size ≤ 1048576) := by
  obtain ⟨x0, hx⟩ := l01New_ev S hS
  obtain ⟨l, i1, s1, e0, hok, h10, h120, hi1⟩ := l18Ins_some S 0 x0 S hS (by decide) hS
  obtain ⟨p, past, alarm, m, ts, ref, er, b1, b2, b3, _, _⟩ := runD_drawn hok h120
  have e1 := spec_RunDevice_eq l (by omega)
  rw [er] at e1
  have hsz : ∀ x ∈ l, x.2.1.size ≤ 1048576 ∧ x.2.2.size ≤ 1048576 := by
    intro x hx
    rw [List.all_eq_true] at hok
    have h := inOk_den (hok x hx)
    exact ⟨by omega, by omega⟩
  have t1 : 0 < ((ts.length : Nat) : Int) := by omega
  have t2 : (((([] : List Tick).length + ts.length : Nat) : Int) * ((24 : Nat) : Int)) ≤ 140737488355328 := by simp only [List.length_nil]; omega
  have t3 : (1 : Int) ≤ ((ts.length : Nat) : Int) := by omega
  have t4 : ts.length ≤ 1000 := by omega
  obtain ⟨x, i2, s2, e2, x1, x2, hi2⟩ := l01Below_some S i1 s1 ((ts.length : Nat) : Int) hS hi1 t1
  have x3 : x < ((l.length : Nat) : Int) := by omega
  obtain ⟨y, i3, s3, e3, _, _, hi3⟩ := l01Below_some S i2 s2 6 hS hi2 (by decide)
  obtain ⟨z5, i5, s5, e5, _, _, _⟩ := l01Below_some S i3 s3 17 hS hi3 (by decide)
  unfold g_spec_DrawLatched spec_DrawLatched_
  refine ex_bind hx (ex_bind e0 (ex_bind e1 (ex_pos t2 (ex_pos t1 (ex_bind e2 (ex_bind e3 ?_))))))
  by_cases c0 : y = 0
  · exact ex_pos c0 (ex_bind e5 (ex_pos x1 (ex_pos x2 ⟨_, rfl, by rw [List.length_set]; exact t4, hsz⟩)))
  by_cases c1 : y = 1
  · exact ex_neg c0 (ex_pos c1 (ex_pos (by decide) (ex_pos t3 ⟨_, rfl, by rw [List.length_drop, List.length_take]; exact Nat.le_trans (Nat.sub_le _ _) (Nat.le_trans (Nat.min_le_right _ _) t4), hsz⟩)))
  by_cases c2 : y = 2
  · exact ex_neg c0 (ex_neg c1 (ex_pos c2 (ex_bind e5 (ex_pos x1 (ex_pos x3 ⟨_, rfl, t4, set_sizes hsz x1 x3⟩)))))
  exact ex_neg c0 (ex_neg c1 (ex_neg c2 ⟨_, rfl, t4, hsz⟩))
theorem spec_DrawLatched_some (S : List Int) (hS : S.length ≤ 1048576) : ∃ (l : List Tick) (is : List In), g_spec_DrawLatched S = some (l, is) ∧ l.length ≤ 1000 ∧ ∀ x ∈ is, x.2.1.size ≤ 1048576 ∧ x.2.2.size ≤ 1048576 := by
  obtain ⟨⟨l, is⟩, h, h1, h2⟩ := spec_DrawLatched_ex S hS
  exact ⟨l, is, h, h1, h2⟩
/- spec_l19Ticks -/
theorem l19Ticks_ex (S : List Int) (i s : Int) (C : List Int) (hS : S.length ≤ 1048576) (hi : 0 ≤ i) (hC : C.length ≤ 1048576) : ∃ r : List Tick × (Unit × Int × Int), g_spec_l19Ticks ((S, i, s), C) = some r ∧ r.1.length ≤ 1000 := by
  obtain ⟨p, past, alarm, m, ts, ref, i1, s1, e0, b1, b2, b3, b4, hi1⟩ := l18Device_some S i s C hS hi hC
  have t1 : 0 < ((ts.length : Nat) : Int) := by omega
  have t2 : (((([] : List Tick).length + ts.length : Nat) : Int) * ((24 : Nat) : Int)) ≤ 140737488355328 := by simp only [List.length_nil]; omega
  have t4 : ts.length ≤ 1000 := by omega
  obtain ⟨x, i2, s2, e2, x1, x2, hi2⟩ := l01Below_some S i1 s1 ((ts.length : Nat) : Int) hS hi1 t1
  obtain ⟨y, i3, s3, e3, _, _, hi3⟩ := l01Below_some S i2 s2 8 hS hi2 (by decide)
  obtain ⟨z, i4, s4, e4, _, _⟩ := l01PickInt_some S i3 s3 [1, 9, 30, (-1)] hS hi3 (by decide)
  obtain ⟨z5, i5, s5, e5, _, _, _⟩ := l01Below_some S i3 s3 17 hS hi3 (by decide)
  unfold g_spec_l19Ticks spec_l19Ticks_
  refine ex_bind e0 (ex_pos t2 (ex_pos t1 (ex_bind e2 (ex_bind e3 ?_))))
  by_cases c0 : y = 0
  · exact ex_pos c0 (ex_pos x1 (ex_pos x2 (ex_bind e4 (ex_pos x1 (ex_pos x2 ⟨_, rfl, by rw [List.length_set]; exact t4⟩)))))
  by_cases c1 : y = 1
  · exact ex_neg c0 (ex_pos c1 (ex_bind e5 (ex_pos x1 (ex_pos x2 ⟨_, rfl, by rw [List.length_set]; exact t4⟩))))
  exact ex_neg c0 (ex_neg c1 ⟨_, rfl, t4⟩)
theorem l19Ticks_some (S : List Int) (i s : Int) (C : List Int) (hS : S.length ≤ 1048576) (hi : 0 ≤ i) (hC : C.length ≤ 1048576) : ∃ (l : List Tick) (i' s' : Int), g_spec_l19Ticks ((S, i, s), C) = some (l, ((), i', s')) ∧ l.length ≤ 1000 := by
  obtain ⟨⟨l, u, i', s'⟩, h, h1⟩ := l19Ticks_ex S i s C hS hi hC
  exact ⟨l, i', s', h, h1⟩
/- spec_DrawStopsOnAlarm -/
theorem spec_DrawStopsOnAlarm_some (S : List Int) (hS : S.length ≤ 1048576) : ∃ l : List Tick, g_spec_DrawStopsOnAlarm S = some l ∧ l.length ≤ 1000 := by
  obtain ⟨x, hx⟩ := l01New_ev S hS
  obtain ⟨l, i, s, h, h1⟩ := l19Ticks_some S 0 x S hS (by omega) hS
  refine ⟨l, ?_, h1⟩
  unfold g_spec_DrawStopsOnAlarm spec_DrawStopsOnAlarm_
  simp only [hx, h, Option.bind_some]
/- spec_DrawWithinLimits -/
theorem spec_DrawWithinLimits_some (S : List Int) (hS : S.length ≤ 1048576) : ∃ l : List Tick, g_spec_DrawWithinLimits S = some l ∧ l.length ≤ 1000 := by
  obtain ⟨x, hx⟩ := l01New_ev S hS
  obtain ⟨l, i, s, h, h1⟩ := l19Ticks_some S 0 x S hS (by omega) hS
  refine ⟨l, ?_, h1⟩
  unfold g_spec_DrawWithinLimits spec_DrawWithinLimits_
  simp only [hx, h, Option.bind_some]
/- laws_big -/
theorem laws_big_eq (l : List Int) : g_laws_big l = some (decide (1048576 < (l.length : Int))) := rfl
/- laws_FnWatches -/
theorem t_FnWatches (S : List Int) : g_laws_FnWatches S = some true := by
  unfold g_laws_FnWatches laws_FnWatches_
  simp only [laws_big_eq, Option.bind_some]
  by_cases hb : decide (1048576 < (S.length : Int)) = true
  · rw [if_pos hb]
  rw [if_neg hb]
  have hS : S.length ≤ 1048576 := by
    rw [decide_eq_true_eq] at hb; omega
  obtain ⟨a, ea, ba⟩ := spec_DrawWithinLimits_some S hS
  obtain ⟨b, eb, bb⟩ := spec_DrawStopsOnAlarm_some S hS
  obtain ⟨l, is, el, bl, bi⟩ := spec_DrawLatched_some S hS
  obtain ⟨p, past, alarm, m, ts, ref, ed, d1, d2, d3⟩ := spec_DrawSoundDevice_some S hS
  obtain ⟨ins, hins, hok, h10, h120⟩ := spec_DrawIns_some S hS
  obtain ⟨p', past', alarm', m', ts', ref', er, r1, r2, r3, r4, r5⟩ := runD_drawn hok h120
  have f1 := impl_RunDevice_eq ins (by omega)
  rw [er] at f1
  have f2 := impl_WithinLimits_eq a (by omega)
  have f3 := spec_WithinLimits_eq a (by omega)
  have f4 := impl_StopsOnAlarm_eq b (by omega)
  have f5 := spec_StopsOnAlarm_eq b (by omega)
  have f6 := impl_Latched_eq l is (by omega) bi
  have f7 := spec_Latched_eq l is (by omega) bi
  have f8 := impl_SoundDevice_eq p past alarm m ts ref (by omega) (by omega) (by omega)
  have f9 := spec_SoundDevice_eq p past alarm m ts ref (by omega) (by omega) (by omega)
  have f10 := impl_TotalOf_eq a (by omega)
  have f11 := spec_TotalOf_eq a (by omega)
  have f12 := impl_SoundDevice_eq p' past' alarm' m' ts' ref' (by omega) (by omega) (by omega)
  rw [r5] at f12
  simp only [ea, eb, el, ed, hins, f1, f2, f3, f4, f5, f6, f7, f8, f9, f10, f11, f12, Option.bind_some, beq_self_eq_true, if_true]
end Go.Sx.T
