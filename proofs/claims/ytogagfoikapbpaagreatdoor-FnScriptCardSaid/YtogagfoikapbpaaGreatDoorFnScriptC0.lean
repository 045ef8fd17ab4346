/- Functions of the program as functions of Lean, and that the program keeps to them. -/
import Derived.Test.YtogagfoikapbpaaGreatDoorFnScriptA1
set_option maxRecDepth 100000
set_option linter.unusedVariables false
set_option linter.unusedSimpArgs false
namespace Go.Proofs
end Go.Proofs
namespace Go.Sx.T
open Go Go.Sx Go.Proofs Go.RowKit
/- impl_within -/
theorem impl_within_eq (a b c : Int) : g_impl_within (a, b, c) = some (decide (b ≤ a ∧ a ≤ c)) := by
  show (if b ≤ a then some (decide (a ≤ c)) else some false) = _
  split
  · rename_i h; refine eq_dec ?_; rw [decide_eq_true_iff]; omega
  · rename_i h; exact dec_no (by omega)
/- impl_SenseOk -/
theorem impl_SenseOk_eq (a : Int) : g_impl_SenseOk a = some (senseOk a) := by
  unfold g_impl_SenseOk impl_SenseOk_
  simp only [impl_within_eq, Option.bind_some]; rfl
/- impl_SenseNames -/
def nameL : List ByteArray := [(⟨#[98, 108, 111, 99, 107]⟩ : ByteArray), (⟨#[97, 105, 114]⟩ : ByteArray), (⟨#[100, 111, 111, 114]⟩ : ByteArray), (⟨#[112, 111, 119, 101, 114]⟩ : ByteArray)]
def bitL (a : Nat) : List Bool := [a % 2 == 1, a / 2 % 2 == 1, a / 4 % 2 == 1, a / 8 % 2 == 1]
def pickL : List Bool → List ByteArray → List ByteArray
  | true :: r, x :: l => x :: pickL r l
  | false :: r, _ :: l => pickL r l
  | _, _ => []
theorem bit_imp : ∀ (a : _root_.Fin 16) (i : _root_.Fin 4), (iand .i64 (Int.fdiv (a.val : Int) (2 ^ (min (Int.toNat (i.val : Int)) (IntKind.bits .i64)))) 1 = 1) ↔ (bitL a.val).getD i.val false = true := by decide +kernel
theorem impl_SenseNames_loop (a : Nat) (ha : a < 16) : ∀ (d i : Nat), i + d = 4 → ∀ acc : List ByteArray, acc.length ≤ i → ∀ r, joinF (acc ++ pickL ((bitL a).drop i) (nameL.drop i)) ⟨#[44]⟩ = some r →
    Ev (fun k => impl_SenseNames_L7 (fun _ => g_impl_SenseOk) (fun _ => g_strings_Join) k ((a : Int), 4, (i : Int), acc, nameL, ())) r := by
  intro d
  induction d with
  | zero =>
    intro i hi acc hacc r hr
    have : i = 4 := by omega
    subst this
    have e : acc ++ pickL ((bitL a).drop 4) (nameL.drop 4) = acc := by simp [bitL, nameL, pickL]
    rw [e] at hr
    refine Ev.step (fun q => by rw [impl_SenseNames_L7]) ?_
    exact ev_neg (by decide) (ev_bind hr ev_some)
  | succ d ih =>
    intro i hi acc hacc r hr
    have hi4 : i < 4 := by omega
    have hn : (nameL.length) = 4 := rfl
    refine Ev.step (fun q => by rw [impl_SenseNames_L7]) ?_
    rw [w64_succ (by omega)]
    refine ev_pos (by omega) (ev_pos (by omega) (ev_pos (by rw [hn]; omega) (ev_pos (by omega) ?_)))
    have key := bit_imp ⟨a, ha⟩ ⟨i, hi4⟩
    have hbl : i < (bitL a).length := by simp [bitL]; omega
    have hnl : i < nameL.length := by rw [hn]; exact hi4
    have d1 : (bitL a).drop i = (bitL a)[i] :: (bitL a).drop (i + 1) := List.drop_eq_getElem_cons hbl
    have d2 : nameL.drop i = nameL[i] :: nameL.drop (i + 1) := List.drop_eq_getElem_cons hnl
    have hg : nameL.getD (i : Int).toNat (⟨#[]⟩ : ByteArray) = nameL[i] := getD_lt hnl
    have hb : (bitL a).getD i false = (bitL a)[i] := by rw [List.getD_eq_getElem?_getD, List.getElem?_eq_getElem hbl]; rfl
    rw [hb] at key
    rw [d1, d2] at hr
    cases hbit : (bitL a)[i] with
    | true =>
      rw [hbit] at hr
      refine ev_pos (key.2 hbit) (ev_pos (by simp only [List.length_singleton]; omega) ?_)
      rw [hg]
      refine ih (i + 1) (by omega) (acc ++ [nameL[i]]) (by simp only [List.length_append, List.length_singleton]; omega) r ?_
      rw [List.append_assoc]
      exact hr
    | false =>
      rw [hbit] at hr
      refine ev_neg (fun q => by have := key.1 q; rw [hbit] at this; cases this) ?_
      exact ih (i + 1) (by omega) acc (by omega) r hr
def senseT (a : Nat) : ByteArray := if a = 0 then (⟨#[110, 111, 110, 101]⟩ : ByteArray) else (joinF (pickL (bitL a) nameL) ⟨#[44]⟩).getD ⟨#[]⟩
theorem sense_join : ∀ a : _root_.Fin 16, a.val ≠ 0 → joinF (pickL (bitL a.val) nameL) ⟨#[44]⟩ = some (senseT a.val) := by
  intro a h
  have hs : ∀ a : _root_.Fin 16, (joinF (pickL (bitL a.val) nameL) ⟨#[44]⟩).isSome = true := by decide +kernel
  unfold senseT
  rw [if_neg h]
  have := hs a
  cases hj : joinF (pickL (bitL a.val) nameL) ⟨#[44]⟩ with
  | none => rw [hj] at this; cases this
  | some r => rfl
theorem impl_SenseNames_eq (a : Nat) (ha : a < 16) : g_impl_SenseNames (a : Int) = some (senseT a) := by
  refine evG_eq ?_
  unfold impl_SenseNames_
  have hok : senseOk (a : Int) = true := by unfold senseOk; exact decide_eq_true (by omega)
  have e := impl_SenseOk_eq (a : Int)
  rw [hok] at e
  by_cases h0 : a = 0
  · subst h0
    exact ev_bind e (ev_pos rfl (ev_pos rfl (ev_eq rfl)))
  · refine ev_bind e (ev_pos rfl (ev_neg (by omega) ?_))
    exact impl_SenseNames_loop a ha 4 0 rfl [] (Nat.le_refl _) _ (sense_join ⟨a, ha⟩ h0)
/- impl_Decimal -/
theorem impl_Decimal_eq (n : Nat) (hn : n ≤ 10000000000000) : g_impl_Decimal (n : Int) = some (decB n) := by
  have e : g_strconv_Itoa (n : Int) = some (decB n) := itoaF_nat (Nat.le_trans hn (by decide))
  unfold g_impl_Decimal impl_Decimal_
  simp only [e, Option.bind_some]
/- impl_MenuNew -/
theorem impl_MenuNew_eq : g_impl_MenuNew () = some menuNew := rfl
/- impl_MenuOk -/
theorem impl_MenuOk_eq (a : Int) (b : Bool) (n d : Int) (s : ByteArray) (hs : s.size ≤ 1048580) : g_impl_MenuOk (a, b, n, d, s) = some (menuOk (a, b, n, d, s)) := by
  refine evG_eq ?_
  unfold impl_MenuOk_
  refine Ev.cast (bytes_loop s (fun k (_ : Unit) i => impl_MenuOk_L2 (fun _ => g_impl_MenuNew) (fun _ => g_impl_within) k ((s.size : Int), i, a, b, n, d, s, ())) (fun r _ => digitsOk r && (if a = 1 then decide (s.size = 0 ∧ b = false ∧ n = 0 ∧ d = 0) else decide ((2 ≤ a ∧ a ≤ 4) ∧ (0 ≤ n ∧ n ≤ 9999) ∧ (0 ≤ d ∧ d ≤ 9999) ∧ s.size ≤ 4))) (fun _ => ?_) (fun i _ x rest hx hi h => ?_) ()) ?_
  · refine Ev.step (fun q => by rw [impl_MenuOk_L2]) ?_
    refine ev_neg (by omega) ?_
    by_cases h1 : a = 1
    · refine ev_pos h1 (ev_bind impl_MenuNew_eq (Ev.cast ev_some ?_))
      rw [if_pos h1]
      show (decide (a = 1) && ((b == false) && (decide (n = 0) && (decide (d = 0) && decide (s = ⟨#[]⟩))))) = (digitsOk [] && decide (s.size = 0 ∧ b = false ∧ n = 0 ∧ d = 0))
      rw [Bool.eq_iff_iff]
      simp only [Bool.and_eq_true, decide_eq_true_iff, beq_iff_eq, eq_empty]
      constructor
      · rintro ⟨_, h2, h3, h4, h5⟩; exact ⟨rfl, h5, h2, h3, h4⟩
      · rintro ⟨_, h5, h2, h3, h4⟩; exact ⟨h1, h2, h3, h4, h5⟩
    · refine ev_neg h1 ?_
      simp only [impl_within_eq, Option.bind_some, decide_eq_true_eq, if_neg h1]
      refine ev_eq ?_
      show _ = some (digitsOk [] && _)
      rw [show digitsOk [] = true from rfl, Bool.true_and]
      repeat' refine ite_r (fun _ => ?_) (fun _ => ?_)
      all_goals first
        | exact dec_no (by omega)
        | (refine eq_dec ?_; rw [decide_eq_true_iff]; omega)
  · refine Ev.step (fun q => by rw [impl_MenuOk_L2]) ?_
    refine ev_pos (by omega) (ev_pos (by omega) (ev_pos (by omega) ?_))
    have := u8_range x
    rw [byt_drop hx, w64_succ (by omega), w64 (by omega) (by omega)]
    refine ev_bind (impl_within_eq _ _ _) ?_
    by_cases h1 : 48 ≤ (x.toNat : Int) ∧ (x.toNat : Int) ≤ 57
    · refine ev_pos (decide_eq_true h1) (Ev.cast (h ()) ?_)
      rw [digitsOk_cons, decide_eq_true h1, Bool.true_and]
    · refine ev_neg (by simpa using h1) (Ev.cast ev_some ?_)
      rw [digitsOk_cons, decide_eq_false h1]; rfl
  · show _ = decide (MenuOkP a b n d s)
    rw [Bool.eq_iff_iff]
    refine Iff.trans ?_ decide_eq_true_iff.symm
    rw [Bool.and_eq_true]
    unfold MenuOkP
    by_cases h1 : a = 1
    · rw [if_pos h1, decide_eq_true_iff]
      constructor
      · rintro ⟨h2, h3, h4, h5, h6⟩; exact ⟨h2, by omega, by omega, by omega, by omega, fun _ => ⟨h3, h4, h5, h6⟩⟩
      · rintro ⟨h2, _, _, _, _, h3⟩; exact ⟨h2, h3 h1⟩
    · rw [if_neg h1, decide_eq_true_iff]
      constructor
      · rintro ⟨h2, h3, h4, h5, h6⟩; exact ⟨h2, by omega, h4, h5, h6, fun q => absurd q h1⟩
      · rintro ⟨h2, h3, h4, h5, h6, _⟩; exact ⟨h2, by omega, h4, h5, h6⟩
/- impl_RoomOf -/
theorem impl_RoomOf_eq (l : List Int) (a : Int) (hl : l.length ≤ 9223372036854775806) : g_impl_RoomOf (l, a) = some (wrap64 (30 - l.sum)) := by
  refine evG_eq ?_
  unfold impl_RoomOf_
  refine Ev.congr (g := fun k => impl_RoomOf_L3 k (wrap64 30, (l.length : Int), ((0 : Nat) : Int), l, ())) (fun k => by rw [w64 (n := 30) (by omega) (by omega)]; rfl) ?_
  refine Ev.cast (list_loop l (fun k s i => impl_RoomOf_L3 k (wrap64 s, (l.length : Int), i, l, ())) (fun r s => wrap64 (s - r.sum)) (fun s => ?_) (fun i s x rest hx hi h => ?_) 0 (by omega) 30) (by simp)
  · refine Ev.step (fun q => by rw [impl_RoomOf_L3]) ?_
    exact ev_neg (by omega) (Ev.cast ev_some (by simp))
  · refine Ev.step (fun q => by rw [impl_RoomOf_L3]) ?_
    refine ev_pos (by omega) (ev_pos (by omega) (ev_pos (by omega) ?_))
    rw [getD_drop hx, w64_succ (by omega), wrap64_sub]
    refine Ev.cast (h (s - x)) ?_
    congr 1
    simp only [List.sum_cons]; omega
/- impl_GuardOk -/
theorem impl_GuardOk_eq (l : List Int) (a : Int) (hl : l.length ≤ 9223372036854775806) : g_impl_GuardOk (l, a) = some (guardOk l a) := by
  refine evG_eq ?_
  unfold impl_GuardOk_
  have hend : Ev (fun k => impl_GuardOk_L2 (fun _ => g_impl_RoomOf) (fun _ => g_impl_SenseOk) (fun _ => g_impl_within) k ((l.length : Int), (l.length : Int), l, a, ())) (if pastOk l = true then guardOk l a else decide (l.length ≤ 9) && decide (0 ≤ wrap64 (30 - l.sum)) && senseOk a) := by
    refine Ev.step (fun q => by rw [impl_GuardOk_L2]) ?_
    refine ev_neg (by omega) ?_
    by_cases h9 : (l.length : Int) ≤ 9
    · refine ev_pos h9 (ev_bind (impl_RoomOf_eq l a hl) ?_)
      simp only [impl_SenseOk_eq, Option.bind_some]
      have h9' : l.length ≤ 9 := by omega
      by_cases hp : pastOk l = true
      · have hs := pastOk_sum hp
        rw [w64 (by omega) (by omega), if_pos hp]
        unfold guardOk
        rw [hp]
        by_cases h30 : l.sum ≤ 30
        · refine ev_pos (by omega) (Ev.cast ev_some ?_)
          simp [h9', h30]
        · refine ev_neg (by omega) (Ev.cast ev_some ?_)
          simp [h30]
      · rw [if_neg hp]
        by_cases h30 : 0 ≤ wrap64 (30 - l.sum)
        · refine ev_pos h30 (Ev.cast ev_some ?_)
          simp [h9', h30]
        · refine ev_neg h30 (Ev.cast ev_some ?_)
          simp [h30]
    · refine ev_neg h9 (Ev.cast ev_some ?_)
      have h9' : ¬ l.length ≤ 9 := by omega
      unfold guardOk
      split <;> simp [h9']
  refine Ev.cast (list_loop l (fun k (_ : Unit) i => impl_GuardOk_L2 (fun _ => g_impl_RoomOf) (fun _ => g_impl_SenseOk) (fun _ => g_impl_within) k ((l.length : Int), i, l, a, ())) (fun r _ => pastOk r && (if pastOk l = true then guardOk l a else decide (l.length ≤ 9) && decide (0 ≤ wrap64 (30 - l.sum)) && senseOk a)) (fun _ => Ev.cast hend (by simp [pastOk])) (fun i _ x rest hx hi h => ?_) 0 (by omega) ()) ?_
  · refine Ev.step (fun q => by rw [impl_GuardOk_L2]) ?_
    refine ev_pos (by omega) (ev_pos (by omega) (ev_pos (by omega) ?_))
    rw [getD_drop hx, impl_within_eq, w64_succ (by omega)]
    simp only [Option.bind_some, decide_eq_true_eq]
    by_cases hx2 : 0 ≤ x ∧ x ≤ 30
    · refine ev_pos hx2 (Ev.cast (h ()) ?_)
      rw [pastOk_cons]; simp [hx2]
    · refine ev_neg hx2 (Ev.cast ev_some ?_)
      rw [pastOk_cons]; simp [hx2]
  · simp only [List.drop_zero]
    cases hp : pastOk l with
    | true => simp
    | false => unfold guardOk; rw [hp]; simp
/- impl_RateOk -/
theorem impl_RateOk_eq (n d r : Int) : g_impl_RateOk (n, d, r) = some (rateOk n d r) := by
  unfold g_impl_RateOk impl_RateOk_ rateOk
  simp only [impl_within_eq, Option.bind_some, decide_eq_true_eq]
  by_cases h1 : 0 ≤ n ∧ n ≤ 1000000
  · by_cases h2 : 1 ≤ d ∧ d ≤ 1000000
    · rw [if_pos h1, if_pos h2, w64 (by omega) (by omega)]
      refine eq_dec ?_
      rw [decide_eq_true_iff]; unfold RateOkP; omega
    · rw [if_pos h1, if_neg h2]; exact dec_no (by unfold RateOkP; omega)
  · rw [if_neg h1]; exact dec_no (by unfold RateOkP; omega)
/- impl_PumpOk -/
theorem impl_PumpOk_eq (p : Pump) : g_impl_PumpOk p = some (pumpOk p) := by
  obtain ⟨s, n, d, r, l, b, g, k⟩ := p
  show _ = some (decide (PumpOkP s n d r l b g k))
  unfold g_impl_PumpOk impl_PumpOk_
  simp only [impl_within_eq, impl_RateOk_eq, Option.bind_some, decide_eq_true_eq, rateOk, beq_iff_eq, Bool.true_eq, Bool.false_eq, decide_eq_false_iff_not, decide_eq_decide]
  by_cases h : RateOkP n d r
  · have hw : wrap64 (3 * d) = 3 * d := by unfold RateOkP at h; exact w64 (by omega) (by omega)
    rw [hw]
    have h0 := h
    unfold RateOkP at h
    repeat' refine ite_r (fun _ => ?_) (fun _ => ?_)
    all_goals first
      | exact absurd h0 (by assumption)
      | exact dec_no (by unfold PumpOkP RateOkP; omega)
      | exact dec_yes (by unfold PumpOkP RateOkP; omega)
      | (refine eq_dec ?_; rw [decide_eq_true_iff]; unfold PumpOkP RateOkP; omega)
  · simp only [h, if_false]
    repeat' refine ite_r (fun _ => ?_) (fun _ => ?_)
    all_goals exact dec_no (by unfold PumpOkP; exact fun q => h q.2.1)
/- impl_DeviceOk -/
theorem impl_DeviceOk_eq (p : Pump) (past : List Int) (alarm : Int) (m : Menu) (ts : List Tick) (ref : Int) (h1 : past.length ≤ 9223372036854775806) (h2 : m.2.2.2.2.size ≤ 1048580) : g_impl_DeviceOk (dev p past alarm m ts ref) = some (deviceOk p past alarm m ts ref) := by
  obtain ⟨s, n, e, r, l, b, g, k⟩ := p
  obtain ⟨a, bo, nu, de, di⟩ := m
  unfold g_impl_DeviceOk impl_DeviceOk_ dev deviceOk g_impl_isNumber impl_isNumber_
  simp only [impl_PumpOk_eq, impl_GuardOk_eq past alarm h1, impl_MenuOk_eq a bo nu de di h2, impl_within_eq, Option.bind_some]
  cases pumpOk (s, n, e, r, l, b, g, k) with
  | false => simp
  | true =>
    cases guardOk past alarm with
    | false => simp
    | true =>
      cases menuOk (a, bo, nu, de, di) with
      | false => simp
      | true =>
        simp only [if_true, Bool.true_and]
        by_cases h : (ts.length : Int) ≤ 200
        · rw [if_pos h, decide_eq_true (show ts.length ≤ 200 by omega), Bool.true_and]
        · rw [if_neg h, decide_eq_false (show ¬ ts.length ≤ 200 by omega), Bool.false_and]
/- impl_ShowDevice -/
-- needs: impl_SenseNames impl_Decimal impl_DeviceOk
theorem bind_eq {α β : Type} {g : Option α} {f : α → Option β} {a : α} {r : Option β} (h : g = some a) (k : f a = r) : g.bind f = r := by rw [h]; exact k
theorem decB_size (n : Nat) : (decB n).size ≤ n + 1 := by
  induction n using Nat.strongRecOn with
  | ind n ih =>
    rw [size_bl, bl_decB, Go.Lib.decDigits]
    by_cases h : n < 10
    · rw [dif_pos h]; simp
    · rw [dif_neg h, List.length_append, ← bl_decB, ← size_bl]
      have := ih (n / 10) (by omega)
      simp only [List.length_singleton]
      omega
theorem senseT_size : ∀ a : _root_.Fin 16, (senseT a.val).size ≤ 100 := by decide +kernel
def showX (s g l a : Nat) : ByteArray := ((((((((⟨#[115, 116, 97, 116, 101, 32]⟩ : ByteArray) ++ decB s) ++ (⟨#[32, 103, 105, 118, 101, 110, 32]⟩ : ByteArray)) ++ decB g) ++ (⟨#[32, 108, 101, 102, 116, 32]⟩ : ByteArray)) ++ decB l) ++ (⟨#[32, 97, 108, 97, 114, 109, 32]⟩ : ByteArray)) ++ senseT a) ++ (⟨#[10]⟩ : ByteArray)
theorem show_nums {p : Pump} {past : List Int} {alarm : Int} {m : Menu} {ts : List Tick} {ref : Int} (h : deviceOk p past alarm m ts ref = true) : ∃ s g l a : Nat, p.1 = (s : Int) ∧ p.2.2.2.2.2.2.1 = (g : Int) ∧ p.2.2.2.2.1 = (l : Int) ∧ alarm = (a : Int) ∧ s ≤ 10000000000000 ∧ g ≤ 10000000000000 ∧ l ≤ 10000000000000 ∧ a < 16 := by
  obtain ⟨h1, h2, _⟩ := deviceOk_den h
  obtain ⟨s, n, d, r, l, b, g, k⟩ := p
  have h3 := pumpOk_den h1
  unfold PumpOkP at h3
  have h4 := senseOk_den (guardOk_den h2).2.2.2
  obtain ⟨q1, _, _, _, _, q2, _, _, q3⟩ := h3
  refine ⟨s.toNat, g.toNat, l.toNat, alarm.toNat, ?_, ?_, ?_, ?_, ?_, ?_, ?_, ?_⟩ <;> first | omega | (show s = _; omega) | (show g = _; omega) | (show l = _; omega)
theorem impl_ShowDevice_ok {p : Pump} {past : List Int} {alarm : Int} {m : Menu} {ts : List Tick} {ref : Int} {s g l a : Nat} (e : g_impl_DeviceOk (dev p past alarm m ts ref) = some true) (h1 : p.1 = (s : Int)) (h2 : p.2.2.2.2.2.2.1 = (g : Int)) (h3 : p.2.2.2.2.1 = (l : Int)) (h4 : alarm = (a : Int)) (b1 : s ≤ 10000000000000) (b2 : g ≤ 10000000000000) (b3 : l ≤ 10000000000000) (b4 : a < 16) :
    g_impl_ShowDevice (dev p past alarm m ts ref) = some (showX s g l a) := by
  have e1 : g_impl_Decimal p.1 = some (decB s) := by rw [h1]; exact impl_Decimal_eq s b1
  have e2 : g_impl_Decimal p.2.2.2.2.2.2.1 = some (decB g) := by rw [h2]; exact impl_Decimal_eq g b2
  have e3 : g_impl_Decimal p.2.2.2.2.1 = some (decB l) := by rw [h3]; exact impl_Decimal_eq l b3
  have e4 : g_impl_SenseNames alarm = some (senseT a) := by rw [h4]; exact impl_SenseNames_eq a b4
  have z1 := decB_size s
  have z2 := decB_size g
  have z3 := decB_size l
  have z4 := senseT_size ⟨a, b4⟩
  have z4 : (senseT a).size ≤ 100 := z4
  have y1 : (⟨#[115, 116, 97, 116, 101, 32]⟩ : ByteArray).size = 6 := rfl
  have y2 : (⟨#[32, 103, 105, 118, 101, 110, 32]⟩ : ByteArray).size = 7 := rfl
  have y3 : (⟨#[32, 108, 101, 102, 116, 32]⟩ : ByteArray).size = 6 := rfl
  have y4 : (⟨#[32, 97, 108, 97, 114, 109, 32]⟩ : ByteArray).size = 7 := rfl
  have y5 : (⟨#[10]⟩ : ByteArray).size = 1 := rfl
  unfold showX
  clear h1 h2 h3 h4
  unfold g_impl_ShowDevice impl_ShowDevice_
  exact bind_eq e ((if_pos rfl).trans (bind_eq e1 ((if_pos (by omega)).trans ((if_pos (by simp only [size_append]; omega)).trans (bind_eq e2 ((if_pos (by simp only [size_append]; omega)).trans ((if_pos (by simp only [size_append]; omega)).trans (bind_eq e3 ((if_pos (by simp only [size_append]; omega)).trans ((if_pos (by simp only [size_append]; omega)).trans (bind_eq e4 ((if_pos (by simp only [size_append]; omega)).trans ((if_pos (by simp only [size_append]; omega)).trans rfl)))))))))))))
/- impl_copyGuard -/
theorem impl_copyGuard_eq (l : List Int) (a : Int) (hl : l.length ≤ 17592186044416) : g_impl_copyGuard (l, a) = some (l, a) := by
  unfold g_impl_copyGuard impl_copyGuard_ g_impl_copyInts impl_copyInts_
  simp only [List.length_nil, Nat.zero_add, List.nil_append]
  rw [if_pos (by omega)]; rfl
/- impl_Pass -/
theorem impl_Pass_eq (l : List Int) (a n : Int) (hl : l.length ≤ 17592186044416) : g_impl_Pass ((l, a), n) = some (pass l a n, a) := by
  unfold g_impl_Pass impl_Pass_ pass
  simp only [impl_copyGuard_eq l a hl, impl_GuardOk_eq l a (by omega), impl_RoomOf_eq l a (by omega), Option.bind_some, mn_eq, mx_eq, List.singleton_append, List.length_singleton]
  by_cases h : guardOk l a = true
  · have hs := guardOk_sum h
    have h9 := (guardOk_den h).1
    simp only [h, if_true]
    rw [w64 (by omega) (by omega), if_pos (by omega), if_pos (by omega), if_pos (by omega)]
    congr 2
    simp only [List.length_cons]
    by_cases h8 : l.length + 1 ≤ 9
    · rw [List.take_of_length_le (by simp only [List.length_cons]; omega), List.take_of_length_le (by simp only [List.length_cons]; omega)]
    · congr 1; omega
  · simp only [h, if_false, Bool.false_eq_true]
/- impl_StepRate -/
theorem impl_StepRate_eq (n d r : Int) : g_impl_StepRate (n, d, r) = some ((n, d, stepRest n d r), stepGives n d r) := by
  unfold g_impl_StepRate impl_StepRate_ stepRest stepGives
  simp only [impl_RateOk_eq, Option.bind_some]
  by_cases h : rateOk n d r = true
  · have h' := rateOk_den h
    obtain ⟨e1, e2⟩ := step_plain h
    simp only [h, if_true]
    rw [if_neg (by omega), if_neg (by omega), e1, e2]
  · simp only [h, if_false]; rfl
/- impl_Wants -/
theorem impl_Wants_eq (p : Pump) : g_impl_Wants p = some (wants p) := by
  obtain ⟨s, n, d, r, l, b, g, k⟩ := p
  unfold g_impl_Wants impl_Wants_
  simp only [impl_PumpOk_eq, impl_StepRate_eq, Option.bind_some, mn_eq]
  by_cases h : pumpOk (s, n, d, r, l, b, g, k) = true
  · obtain ⟨_, a2, a3, _, _, a6, _, a8, _⟩ := pumpOk_den h
    have hg := stepGives_range (decide_eq_true a2) a3
    unfold wants runs
    simp only [h, if_true, Bool.true_and, decide_eq_true_eq]
    repeat' split
    all_goals first
      | (exfalso; omega)
      | rfl
      | (rw [w64 (by omega) (by omega)])
  · unfold wants runs
    simp only [h, if_false, Bool.false_and, Bool.false_eq_true]
/- impl_Give -/
theorem impl_Give_eq (p : Pump) (m : Int) : g_impl_Give (p, m) = some (give p m) := by
  obtain ⟨s, n, d, r, l, b, g, k⟩ := p
  unfold g_impl_Give impl_Give_
  simp only [impl_PumpOk_eq, impl_StepRate_eq, impl_Wants_eq, Option.bind_some, mn_eq, mx_eq]
  have hw := wants_range (s, n, d, r, l, b, g, k)
  by_cases h : pumpOk (s, n, d, r, l, b, g, k) = true
  · obtain ⟨_, a2, a3, _, _, a6, _, a8, a9⟩ := pumpOk_den h
    unfold give runs giveB giveN
    simp only [h, if_true, Bool.true_and, decide_eq_true_eq]
    generalize hW : wants (s, n, d, r, l, b, g, k) = W at hw
    have e1 : min (min (min (max m 0) W) b) 3 = min (min (max m 0) W) (min b 3) := by omega
    rw [e1]
    generalize hN : min (max m 0) W = N
    have hN' : 0 ≤ N ∧ N ≤ 6 := by omega
    generalize hB : min N (min b 3) = B
    have hB' : 0 ≤ B ∧ B ≤ 3 ∧ B ≤ N := by omega
    rw [w64 (n := b - B) (by omega) (by omega), w64 (n := g + N) (by omega) (by omega), w64 (n := N - B) (by omega) (by omega), w64 (n := l - (N - B)) (by omega) (by omega)]
    repeat' split
    all_goals first
      | rfl
      | (exfalso; omega)
      | (rename_i h0; rw [h0.2])
      | (rename_i h0; rw [h0])
      | (rename_i h0 _; rw [h0])
  · unfold give runs
    simp only [h, if_false, Bool.false_and, Bool.false_eq_true]
/- impl_Allow -/
theorem impl_Allow_eq (l : List Int) (a m : Int) (hl : l.length ≤ 9223372036854775806) : g_impl_Allow ((l, a), m) = some (allow l a m) := by
  unfold g_impl_Allow impl_Allow_ allow
  simp only [impl_GuardOk_eq l a hl, impl_RoomOf_eq l a hl, Option.bind_some, mx_eq, mn_eq]
  by_cases h : guardOk l a = true
  · have hs := guardOk_sum h
    by_cases h0 : a = 0
    · simp only [h, h0, if_true, and_self]
      rw [w64 (by omega) (by omega)]
      rw [h0] at h
      simp [h]
    · simp only [h, h0, if_true, if_false, and_false]
  · simp only [h, if_false, false_and, Bool.false_eq_true]
/- impl_Feel -/
theorem impl_Feel_eq (l : List Int) (a s : Int) (b : Bool) (hl : l.length ≤ 17592186044416) : g_impl_Feel ((l, a), (s, b)) = some (l, feel l a s b) := by
  unfold g_impl_Feel impl_Feel_ feel
  simp only [impl_copyGuard_eq l a hl, impl_GuardOk_eq l a (by omega), impl_SenseOk_eq, Option.bind_some]
  cases guardOk l a <;> cases senseOk s <;> cases b <;> simp
/- impl_isSeen -/
theorem impl_isSeen_eq (l : List Order) (hl : l.length ≤ 1048580) : g_impl_isSeen l = some (seenF l) := by
  refine evG_eq ?_
  unfold impl_isSeen_
  have := list_loop l (fun k (z : Unit) i => impl_isSeen_L2 k ((l.length : Int), i, l, z)) (fun r _ => seenF r) (fun z => by
    refine Ev.step (fun q => by rw [impl_isSeen_L2]) ?_
    exact ev_neg (by omega) ev_some) (fun i z x rest hx hi h => by
    refine Ev.step (fun q => by rw [impl_isSeen_L2]) ?_
    refine ev_pos (by omega) (ev_pos (by omega) (ev_pos (by omega) ?_))
    rw [getD_drop hx, w64_succ (by omega)]
    have e : seenF (x :: rest) = (decide (x.1 = 5) || seenF rest) := rfl
    refine ev_dom (fun h5 => ?_) (fun h5 => ?_)
    · rw [e, decide_eq_true h5]
      exact ev_some
    · rw [e, decide_eq_false h5]
      exact h ()) 0 (Nat.zero_le _) ()
  simpa using this
/- impl_OrderOk -/
theorem impl_OrderOk_eq (o : Order) : g_impl_OrderOk o = some (orderOk o) := by
  obtain ⟨a, b, c, x⟩ := o
  show _ = some (decide (OrderOkP a b c x))
  unfold g_impl_OrderOk impl_OrderOk_
  simp only [impl_within_eq, Option.bind_some, decide_eq_true_eq, mn_eq]
  by_cases h : 1 ≤ c ∧ c ≤ 1000
  · have hw : wrap64 (3 * c) = 3 * c := w64 (by omega) (by omega)
    rw [hw]
    repeat' refine ite_r (fun _ => ?_) (fun _ => ?_)
    all_goals first
      | exact dec_no (by unfold OrderOkP; omega)
      | exact dec_yes (by unfold OrderOkP; omega)
      | (exfalso; omega)
      | (exfalso; simp_all; done)
      | (refine eq_dec ?_; simp only [Bool.and_eq_true, decide_eq_true_eq, decide_true, true_and]; unfold OrderOkP; omega)
  · simp only [h, if_false]
    repeat' refine ite_r (fun _ => ?_) (fun _ => ?_)
    all_goals first
      | exact dec_no (by unfold OrderOkP; omega)
      | exact dec_yes (by unfold OrderOkP; omega)
      | (exfalso; omega)
      | (exfalso; simp_all; done)
      | (refine eq_dec ?_; simp only [Bool.and_eq_true, decide_eq_true_eq, decide_true, true_and]; unfold OrderOkP; omega)
/- impl_ReadVar -/
theorem shl7 (c j : Nat) (hj : j < 5) (hc : c ≤ 255) : wr .i64 (Int.tmod (wrap64 (c : Int)) 128 * 2 ^ (min (Int.toNat (wrap64 (7 * (j : Int)))) (IntKind.bits .i64))) = ((c % 128 * 128 ^ j : Nat) : Int) := by
  have e1 : wrap64 (7 * (j : Int)) = ((7 * j : Nat) : Int) := by
    rw [w64 (by omega) (by omega)]; omega
  have e2 : Int.tmod (wrap64 (c : Int)) 128 = ((c % 128 : Nat) : Int) := by
    rw [w64 (by omega) (by omega), Int.tmod_eq_emod_of_nonneg (by omega)]; omega
  have e3 : min (7 * j) (IntKind.bits .i64) = 7 * j := by
    have : IntKind.bits .i64 = 64 := rfl
    rw [this]; omega
  rw [e1, e2, Int.toNat_natCast, e3]
  have e4 : (2 : Int) ^ (7 * j) = ((128 ^ j : Nat) : Int) := by
    rw [Int.pow_mul, Int.natCast_pow]; rfl
  rw [e4, ← Int.natCast_mul]
  have h1 : c % 128 * 128 ^ j ≤ 127 * 128 ^ 4 := Nat.mul_le_mul (by omega) (Nat.pow_le_pow_right (by omega) (by omega))
  show wrap64 _ = _
  exact w64 (by omega) (by omega)
theorem readV_step (j n m : Nat) (hm : m ≤ 127) (h : n < 128 ^ j) : n + m * 128 ^ j < 128 ^ (j + 1) := by
  have := Nat.mul_le_mul_right (128 ^ j) hm
  rw [Nat.pow_succ]
  omega
theorem readV_le (j : Nat) (hj : j ≤ 5) : 128 ^ j ≤ 34359738368 := by
  have h := Nat.pow_le_pow_right (n := 128) (by omega) hj
  exact Nat.le_trans h (by decide)
theorem impl_ReadVar_eq (s : ByteArray) (i : Int) (hs : s.size ≤ 1048580) : g_impl_ReadVar (s, i) = some (readV s i) := by
  refine evG_eq ?_
  unfold impl_ReadVar_ readV
  refine ev_bind (impl_within_eq _ _ _) ?_
  by_cases h : 0 ≤ i ∧ i ≤ (s.size : Int)
  case neg =>
    rw [if_neg h]
    exact ev_neg (by simpa using h) ev_some
  rw [if_pos h]
  refine ev_pos (by simp [h]) ?_
  obtain ⟨a, rfl⟩ := Int.eq_ofNat_of_zero_le h.1
  have ha : a ≤ s.size := by omega
  rw [Int.toNat_natCast]
  have key : ∀ (f j n : Nat), j + f = 5 → n < 128 ^ j → Ev (fun k => impl_ReadVar_L5 (fun _ => g_impl_within) k (s, (a : Int), (n : Int), (j : Int), ())) (rdv s a f j n) := by
    intro f
    induction f with
    | zero =>
      intro j n hj hn
      refine Ev.step (fun q => by rw [impl_ReadVar_L5]) ?_
      exact ev_neg (by omega) ev_some
    | succ f ih =>
      intro j n hj hn
      have hc := byN_le s (a + j)
      have hst := readV_step j n (byN s (a + j) % 128) (by omega) hn
      have hB := Nat.lt_of_lt_of_le hst (readV_le (j + 1) (by omega))
      have esh := shl7 (byN s (a + j)) j (by omega) hc
      have hih := ih (j + 1) _ (by omega) hst
      unfold rdv
      clear hst ih hn
      generalize byN s (a + j) % 128 * 128 ^ j = M at *
      refine Ev.step (fun q => by rw [impl_ReadVar_L5]) ?_
      have eaj : wrap64 ((a : Int) + (j : Int)) = ((a + j : Nat) : Int) := by
        rw [w64 (by omega) (by omega)]; omega
      rw [eaj, byt_byN, esh]
      clear esh
      generalize hcc : byN s (a + j) = c at *
      clear hcc
      have ec : wrap64 (c : Int) = (c : Int) := w64 (by omega) (by omega)
      have en : wrap64 ((n : Int) + (M : Int)) = ((n + M : Nat) : Int) := by
        rw [w64 (by omega) (by omega)]; omega
      have e7 : wrap64 (7 * (j : Int)) = 7 * (j : Int) := w64 (by omega) (by omega)
      have e1 : wrap64 (((a + j : Nat) : Int) + 1) = ((a + j + 1 : Nat) : Int) := w64_succ (by omega)
      have e2 : wrap64 ((j : Int) + 1) = ((j + 1 : Nat) : Int) := w64_succ (by omega)
      rw [en, ec, e7, e1, e2]
      generalize n + M = N at *
      refine ev_pos (by omega) ?_
      by_cases hlt : a + j < s.size
      case neg =>
        rw [if_neg hlt]
        exact ev_neg (by omega) ev_some
      rw [if_pos hlt]
      refine ev_pos (by omega) ?_
      refine ev_pos (by omega) ?_
      refine ev_pos (by omega) ?_
      refine ev_neg (by omega) ?_
      refine ev_pos (by omega) ?_
      by_cases h127 : 127 < c
      · rw [if_pos h127]
        exact ev_pos (by omega) hih
      · rw [if_neg h127]
        clear hih
        refine ev_neg (by omega) ?_
        by_cases hj0 : 0 < j
        · refine ev_pos (by omega) ?_
          by_cases h0 : c = 0
          · have hyes : (0 < j ∧ c = 0) ∨ 1000000000 < N := .inl ⟨hj0, h0⟩
            rw [if_pos hyes]
            exact ev_pos (by omega) ev_some
          · refine ev_neg (by omega) ?_
            by_cases hb : 1000000000 < N
            · have hyes : (0 < j ∧ c = 0) ∨ 1000000000 < N := .inr hb
              rw [if_pos hyes]
              exact ev_pos (Int.ofNat_lt.2 hb) ev_some
            · have hng : ¬ ((0 < j ∧ c = 0) ∨ 1000000000 < N) := by
                rintro (⟨_, q⟩ | q)
                · exact h0 q
                · exact hb q
              rw [if_neg hng]
              exact ev_neg (fun q => hb (Int.ofNat_lt.1 q)) ev_some
        · refine ev_neg (by omega) ?_
          by_cases hb : 1000000000 < N
          · have hyes : (0 < j ∧ c = 0) ∨ 1000000000 < N := .inr hb
            rw [if_pos hyes]
            exact ev_pos (Int.ofNat_lt.2 hb) ev_some
          · have hng : ¬ ((0 < j ∧ c = 0) ∨ 1000000000 < N) := by
              rintro (⟨q, _⟩ | q)
              · exact hj0 q
              · exact hb q
            rw [if_neg hng]
            exact ev_neg (fun q => hb (Int.ofNat_lt.1 q)) ev_some
  exact key 5 0 0 rfl (by decide)
/- impl_reader__number -/
theorem impl_reader__number_eq (s : ByteArray) (i : Int) (b : Bool) (hs : s.size ≤ 1048580) : g_impl_reader__number (s, i, b) = some (numberF (s, i, b)) := by
  unfold g_impl_reader__number impl_reader__number_ numberF
  simp only [impl_ReadVar_eq s i hs, Option.bind_some]
  split
  · rfl
  · split <;> rfl
/- impl_highFirst -/
theorem impl_highFirst_eq (v : Int) (hv : 0 ≤ v) : g_impl_highFirst (v, 4) = some (four v) := by
  refine evG_eq ?_
  unfold impl_highFirst_
  have e3 : ∀ w : Int, Int.fdiv w (2 ^ (min (Int.toNat 8) (IntKind.bits .i64))) = w / 256 := by
    intro w
    have : min (Int.toNat 8) (IntKind.bits .i64) = 8 := by decide
    rw [this, Int.fdiv_eq_ediv_of_nonneg _ (by decide)]
    rfl
  refine ev_pos rfl (ev_pos (by decide) (ev_pos (by decide) ?_))
  have w3 : wrap64 (4 - 1) = 3 := by decide
  have w2 : wrap64 (3 - 1) = 2 := by decide
  have w1 : wrap64 (2 - 1) = 1 := by decide
  have w0 : wrap64 (1 - 1) = 0 := by decide
  have wm : wrap64 (0 - 1) = -1 := by decide
  have r4 : List.replicate (Int.toNat 4) (0 : Int) = [0, 0, 0, 0] := rfl
  rw [w3, r4]
  refine Ev.step (fun q => by rw [impl_highFirst_L3]) ?_
  refine ev_pos (by decide) (ev_pos (by decide) (ev_pos (by decide) (ev_pos (by decide) ?_)))
  rw [w2, e3]
  refine Ev.step (fun q => by rw [impl_highFirst_L3]) ?_
  refine ev_pos (by decide) (ev_pos (by decide) (ev_pos (by simp) (ev_pos (by decide) ?_)))
  rw [w1, e3]
  refine Ev.step (fun q => by rw [impl_highFirst_L3]) ?_
  refine ev_pos (by decide) (ev_pos (by decide) (ev_pos (by simp) (ev_pos (by decide) ?_)))
  rw [w0, e3]
  refine Ev.step (fun q => by rw [impl_highFirst_L3]) ?_
  refine ev_pos (by decide) (ev_pos (by decide) (ev_pos (by simp) (ev_pos (by decide) ?_)))
  rw [wm, e3]
  refine Ev.step (fun q => by rw [impl_highFirst_L3]) ?_
  refine ev_neg (by decide) (ev_eq ?_)
  have q0 := and255_eq hv
  have q1 := and255_eq (x := v / 256) (by omega)
  have q2 := and255_eq (x := v / 256 / 256) (by omega)
  have q3 := and255_eq (x := v / 256 / 256 / 256) (by omega)
  rw [q0, q1, q2, q3]
  unfold four
  have m : ∀ w : Int, wr .u8 (w % 256) = wr .u8 w := fun w => by rw [wr8, wr8]; omega
  simp only [m]
  have d2 : v / 65536 = v / 256 / 256 := by omega
  have d3 : v / 16777216 = v / 256 / 256 / 256 := by omega
  rw [d2, d3]
  rfl
/- impl_SumMore -/
theorem impl_SumMore_eq (s : ByteArray) (b : Int) (hs : s.size ≤ 1048580) : g_impl_SumMore (b, s) = some (sumF (bl s) b) := by
  have inner : ∀ (d j : Nat), j + d = 8 → ∀ (b i r : Int), Ev (fun k => impl_SumMore_L2 k (rnds d b, s, wrap64 (i + 1), ())) r → Ev (fun k => impl_SumMore_L6 k (b, s, i, (j : Int), ())) r := by
    intro d
    induction d with
    | zero =>
      intro j hj b i r h
      refine Ev.step (fun q => by rw [impl_SumMore_L6]) ?_
      exact ev_neg (by omega) h
    | succ d ih =>
      intro j hj b i r h
      refine Ev.step (fun q => by rw [impl_SumMore_L6]) ?_
      refine ev_pos (by omega) (ev_neg (by omega) (ev_neg (by omega) (ev_dom (fun hc => ?_) (fun hc => ?_))))
      · rw [w64_succ (by omega)]
        refine ih (j + 1) (by omega) _ i r ?_
        have e : rnds (d + 1) b = rnds d (ixor .u32 (wr .u32 (Int.tdiv b 2)) 3558460437) := by
          show rnds d (rnd b) = _
          unfold rnd; rw [if_pos hc]
        rw [← e]; exact h
      · rw [w64_succ (by omega)]
        refine ih (j + 1) (by omega) _ i r ?_
        have e : rnds (d + 1) b = rnds d (wr .u32 (Int.tdiv b 2)) := by
          show rnds d (rnd b) = _
          unfold rnd; rw [if_neg hc]
        rw [← e]; exact h
  refine evG_eq ?_
  unfold impl_SumMore_
  refine bytes_loop s (fun k z i => impl_SumMore_L2 k (z, s, i, ())) sumF (fun z => ?_) (fun i z x rest hx hi h => ?_) b
  · refine Ev.step (fun q => by rw [impl_SumMore_L2]) ?_
    exact ev_neg (by omega) ev_some
  · refine Ev.step (fun q => by rw [impl_SumMore_L2]) ?_
    refine ev_pos (by omega) (ev_pos (by omega) (ev_pos (by omega) ?_))
    rw [byt_drop hx]
    refine inner 8 0 rfl _ _ _ ?_
    rw [w64_succ (by omega)]
    exact h _
/- impl_SumOf -/
theorem impl_SumOf_eq (s : ByteArray) (hs : s.size ≤ 1048580) : g_impl_SumOf s = some (sumOf s) := by
  unfold g_impl_SumOf impl_SumOf_
  simp only [impl_SumMore_eq s _ hs, Option.bind_some]
  rfl
/- impl_Sealed -/
theorem u32_w64 (v : Int) (hu : U32 v) : wrap64 v = v := by
  unfold U32 at hu
  exact w64 (by omega) (by omega)
theorem impl_highFirst_u32 (v : Int) (hu : U32 v) : g_impl_highFirst (v, 4) = some (four v) := impl_highFirst_eq v hu.1
theorem size_four (s : ByteArray) (v : Int) (hs : s.size ≤ 1048580) : ((s.size + (four v).size : Nat) : Int) ≤ 9223372036854775807 := by
  rw [four_size]
  omega
theorem impl_Sealed_four (s : ByteArray) (v : Int) (hu : U32 v) (c2 : (((s.size + (four v).size : Nat) : Int) ≤ 9223372036854775807)) : ((g_impl_highFirst (wrap64 v, 4)).bind fun v1 => if ((s.size + v1.size : Nat) : Int) ≤ 9223372036854775807 then some (s ++ v1, true) else none) = some (s ++ four v, true) := by
  rw [u32_w64 v hu, impl_highFirst_u32 v hu, Option.bind_some, if_pos c2]
theorem impl_Sealed_eq (s : ByteArray) (hs : s.size ≤ 1048580) : g_impl_Sealed s = some (sealT s) := by
  have c2 := size_four s (sumOf s) hs
  show (if 20000 < ((ByteArray.size s : Nat) : Int) then some ((⟨#[]⟩ : ByteArray), false) else (g_impl_SumOf s).bind fun v0 => (g_impl_highFirst ((wrap64 v0), 4)).bind fun v1 => if ((ByteArray.size s + ByteArray.size v1 : Nat) : Int) ≤ 9223372036854775807 then some ((s ++ v1), true) else none) = _
  rw [impl_SumOf_eq s hs, Option.bind_some, impl_Sealed_four s (sumOf s) (u32_sumOf s) c2]
  clear c2
  unfold sealT
  by_cases h : 20000 < s.size
  · have c : (20000 : Int) < ((s.size : Nat) : Int) := by omega
    rw [if_pos c, if_pos h]
  · have c : ¬ (20000 : Int) < ((s.size : Nat) : Int) := by omega
    rw [if_neg c, if_neg h]
/- impl_Unsealed -/
theorem impl_Unsealed_eq (t : ByteArray) (hs : t.size ≤ 1048580) : g_impl_Unsealed t = some (unsealT t) := by
  unfold g_impl_Unsealed impl_Unsealed_ unsealT
  have hw : wrap64 (((t.size : Nat) : Int) - 4) = ((t.size : Nat) : Int) - 4 := w64 (by omega) (by omega)
  simp only [hw]
  by_cases h : t.size < 4
  · have c : ((t.size : Nat) : Int) - 4 < 0 := by omega
    rw [if_pos c, if_pos h]
  · have c : ¬ ((t.size : Nat) : Int) - 4 < 0 := by omega
    have c1 : 0 ≤ ((t.size : Nat) : Int) - 4 := by omega
    have c2 : ((t.size : Nat) : Int) - 4 ≤ ((t.size : Nat) : Int) := by omega
    have e : ByteArray.extract t (Int.toNat 0) (Int.toNat (((t.size : Nat) : Int) - 4)) = front t := by
      have : (Int.toNat (((t.size : Nat) : Int) - 4)) = t.size - 4 := by omega
      rw [this]; rfl
    have hf := front_size t
    have hq := impl_Sealed_eq (front t) (by omega)
    rw [if_neg c, if_neg h]
    simp only [c1, c2, if_true, e, hq, Option.bind_some]
    unfold sealT
    by_cases h2 : 20000 < (front t).size
    · have h3 : ¬ ((front t).size ≤ 20000 ∧ front t ++ four (sumOf (front t)) = t) := by omega
      rw [if_pos h2, if_neg h3]
      simp
    · rw [if_neg h2]
      by_cases h3 : front t ++ four (sumOf (front t)) = t
      · have h4 : (front t).size ≤ 20000 ∧ front t ++ four (sumOf (front t)) = t := ⟨by omega, h3⟩
        rw [if_pos h4]
        simp [h3]
      · have h4 : ¬ ((front t).size ≤ 20000 ∧ front t ++ four (sumOf (front t)) = t) := fun q => h3 q.2
        rw [if_neg h4]
        simp [h3]
/- impl_ReadOrder -/
theorem w64_byt (s : ByteArray) : wrap64 (byt s 0) = byt s 0 := by
  have e2 : byt s 0 = (byN s 0 : Int) := byt_byN s 0
  have hc := byN_le s 0
  rw [e2]
  exact w64 (by omega) (by omega)
theorem impl_ReadOrder_eq (t : ByteArray) (hs : t.size ≤ 1048580) : g_impl_ReadOrder t = some (readO t) := by
  unfold g_impl_ReadOrder impl_ReadOrder_ readO
  simp only [impl_Unsealed_eq t hs, Option.bind_some]
  by_cases hu : (unsealT t).2 = true
  case neg =>
    rw [if_neg hu, if_neg (fun q => hu q.1)]
  have hz := (unsealT_ok hu).1
  rw [if_pos hu]
  generalize (unsealT t).1 = s at hz
  by_cases h0 : 0 < s.size
  case neg =>
    have he : s = ⟨#[]⟩ := (eq_empty s).2 (by omega)
    rw [if_pos he, if_neg (fun q => h0 q.2)]
  have he : ¬ s = ⟨#[]⟩ := fun q => by rw [(eq_empty s).1 q] at h0; omega
  have c0 : (0 : Int) < ((s.size : Nat) : Int) := by omega
  rw [if_neg he, if_pos (Nat.le_refl 0), if_pos c0, if_pos ⟨hu, h0⟩]
  have k1 := numberF_keep (s, 1, false)
  have k2 := numberF_keep (numberF (s, 1, false)).2
  have e1 := impl_reader__number_eq s 1 false (by omega)
  have e2 : g_impl_reader__number (numberF (s, 1, false)).2 = some (numberF (numberF (s, 1, false)).2) := by
    have h : (numberF (s, 1, false)).2.1.size ≤ 1048580 := by rw [k1]; show s.size ≤ _; omega
    exact impl_reader__number_eq _ _ _ h
  have e3 : g_impl_reader__number (numberF (numberF (s, 1, false)).2).2 = some (numberF (numberF (numberF (s, 1, false)).2).2) := by
    have h : (numberF (numberF (s, 1, false)).2).2.1.size ≤ 1048580 := by rw [k2, k1]; show s.size ≤ _; omega
    exact impl_reader__number_eq _ _ _ h
  simp only [e1, e2, e3, Option.bind_some, w64_byt, impl_OrderOk_eq]
  by_cases hb : (numberF (numberF (numberF (s, 1, false)).2).2).2.2.2 = true
  · rw [if_pos hb, if_pos hb]
  · rw [if_neg hb, if_neg hb]
    by_cases ha : (numberF (numberF (numberF (s, 1, false)).2).2).2.2.1 = ((s.size : Nat) : Int)
    · rw [if_pos ha]
      split
      · rename_i hk; rw [if_pos ⟨ha, hk⟩]
      · rename_i hk; rw [if_neg (fun q => hk q.2)]
    · rw [if_neg ha, if_neg (fun q => ha q.1)]
/- impl_Take -/
theorem impl_Take_eq (p : Pump) (o : Order) : g_impl_Take (p, o) = some (take p o) := by
  obtain ⟨s, n, d, r, l, b, g, k⟩ := p
  obtain ⟨a, c, e, x⟩ := o
  unfold g_impl_Take impl_Take_ take takeR
  simp only [impl_PumpOk_eq, impl_OrderOk_eq, Option.bind_some]
  by_cases h : pumpOk (s, n, d, r, l, b, g, k) = true
  · by_cases h' : orderOk (a, c, e, x) = true
    · obtain ⟨h1, _, _, _, _, _, _, h8, _⟩ := pumpOk_den h
      simp only [h, h', if_true, and_self]
      repeat' split
      all_goals first
        | rfl
        | (exfalso; omega)
        | (simp_all; done)
        | (simp_all; omega)
    · simp only [h, h', if_true, if_false, and_false, Bool.false_eq_true]
  · simp only [h, if_false, false_and, Bool.false_eq_true]
/- impl_Device__order -/
theorem impl_Device__order_eq (p : Pump) (past : List Int) (alarm : Int) (m : Menu) (ts : List Tick) (ref : Int) (o : Order) :
    g_impl_Device__order (dev p past alarm m ts ref, o) = some ((takeO p o).2, ((takeO p o).1.1, (takeO p o).1.2.1, (takeO p o).1.2.2.1, (takeO p o).1.2.2.2.1, (takeO p o).1.2.2.2.2.1, (takeO p o).1.2.2.2.2.2.1, (takeO p o).1.2.2.2.2.2.2.1, (takeO p o).1.2.2.2.2.2.2.2, (), alarm, m.1, m.2.1, m.2.2.1, m.2.2.2.1, m.2.2.2.2, (), ref)) := by
  obtain ⟨a, b, c, x⟩ := o
  unfold g_impl_Device__order impl_Device__order_ dev takeO
  simp only []
  by_cases h : a = 5
  · rw [if_pos h, if_pos h]
  · rw [if_neg h, if_neg h]
    have e := impl_Take_eq p (a, b, c, x)
    show (g_impl_Take (p, (a, b, c, x))).bind _ = _
    rw [e]
    rfl
/- impl_typed -/
theorem impl_typed_eq (s : ByteArray) (hs : s.size ≤ 1048580) : g_impl_typed s = some (num s) := by
  refine evG_eq ?_
  unfold impl_typed_ num
  refine bytes_loop s (fun k z i => impl_typed_L3 k (s, z, (s.size : Int), i, ())) numF (fun z => ?_) (fun i z x rest hx hi h => ?_) 0
  · refine Ev.step (fun q => by rw [impl_typed_L3]) ?_
    exact ev_neg (by omega) ev_some
  · refine Ev.step (fun q => by rw [impl_typed_L3]) ?_
    refine ev_pos (by omega) (ev_pos (by omega) (ev_pos (by omega) ?_))
    have e : wrap64 (wr .u8 ((x.toNat : Int) - 48)) = ((x.toNat : Int) - 48) % 256 := by rw [wr8]; exact w64 (by omega) (by omega)
    rw [byt_drop hx, w64_succ (by omega), e]
    exact h _
/- impl_Menu__enter -/
theorem impl_Menu__enter_eq (a : Int) (b : Bool) (n d : Int) (s : ByteArray) (hs : s.size ≤ 1048580) : g_impl_Menu__enter (a, b, n, d, s) = some (if a = 2 then ((3, b, num s, d, ⟨#[]⟩), (0, 0, 0, 0), false)
        else if a = 3 then ((4, b, n, num s, ⟨#[]⟩), (0, 0, 0, 0), false)
        else if b = true then sent 2 0 0 (num s)
        else sent 1 n d (num s)) := by
  unfold g_impl_Menu__enter impl_Menu__enter_ sent
  simp only [impl_typed_eq s hs, impl_OrderOk_eq, impl_MenuNew_eq, Option.bind_some]
  repeat' split
  all_goals rfl
/- impl_Press -/
theorem impl_Press_eq (a : Int) (b : Bool) (n d : Int) (s : ByteArray) (c : Int) (hs : s.size ≤ 1048580) : g_impl_Press ((a, b, n, d, s), c) = some (press (a, b, n, d, s) c) := by
  unfold g_impl_Press impl_Press_ press
  simp only [impl_MenuOk_eq a b n d s hs, impl_Menu__enter_eq a b n d s hs, impl_MenuNew_eq, impl_within_eq, Option.bind_some, decide_eq_true_eq, wr8, size_bstr]
  refine ite_r (fun h => ?_) (fun h => ?_)
  · rw [if_pos h]
    refine ite_r (fun h1 => ?_) (fun h1 => ?_)
    · rw [if_pos h1]
      unfold g_impl_Menu__top impl_Menu__top_
      simp only []
      repeat' split
      all_goals rfl
    · rw [if_neg h1]
      refine ite_r (fun h2 => by rw [if_pos h2]) (fun h2 => ?_)
      rw [if_neg h2]
      refine ite_r (fun h3 => by rw [if_pos h3]) (fun h3 => ?_)
      rw [if_neg h3]
      refine ite_r (fun h4 => ?_) (fun h4 => ?_)
      · refine ite_r (fun h5 => ?_) (fun h5 => ?_)
        · rw [if_pos (show ((s.size + List.length [c % 256] : Nat) : Int) ≤ 9223372036854775807 by simp only [List.length_singleton]; omega), if_pos (show (48 ≤ c ∧ c ≤ 57) ∧ s.size < 4 from ⟨h4, by omega⟩)]
        · rw [if_neg (show ¬ ((48 ≤ c ∧ c ≤ 57) ∧ s.size < 4) from fun q => h5 (by omega))]
      · rw [if_neg (show ¬ ((48 ≤ c ∧ c ≤ 57) ∧ s.size < 4) from fun q => h4 q.1)]
  · rw [if_neg h]
/- impl_PressAll -/
theorem impl_PressAll_eq (m : Menu) (s : ByteArray) (hm : m.2.2.2.2.size ≤ 1048580) (hs : s.size ≤ 1048580) : g_impl_PressAll (m, s) = some (pressAll m s) := by
  refine evG_eq ?_
  have key : ∀ (z8 : Int) (z9 : Bool) (z10 z11 : Int) (z12 : ByteArray) (i : Nat), i ≤ (bl s).length → ∀ q : Menu × List Order, q.1.2.2.2.2.size ≤ 1048580 → q.2.length ≤ i →
      Ev (fun k => impl_PressAll_L3 (fun _ => g_impl_Press) k (s, (s.size : Int), (i : Int), q.1.1, q.1.2.1, q.1.2.2.1, q.1.2.2.2.1, q.1.2.2.2.2, z8, z9, z10, z11, z12, q.2, ())) (pressL ((bl s).drop i) q.1 q.2) := by
    intro z8 z9 z10 z11 z12 i hi
    obtain ⟨d, hd⟩ : ∃ d, d = (bl s).length - i := ⟨_, rfl⟩
    have hbl := bl_len s
    induction d generalizing i with
    | zero =>
      intro q _ _
      have e : i = (bl s).length := by omega
      rw [List.drop_of_length_le (by omega)]
      refine Ev.step (fun w => by rw [impl_PressAll_L3]) ?_
      exact ev_neg (by omega) ev_some
    | succ d ih =>
      intro q h1 h2
      have hlt : i < (bl s).length := by omega
      have hc : (bl s).drop i = (bl s)[i] :: (bl s).drop (i + 1) := List.drop_eq_getElem_cons hlt
      have hx := u8_range ((bl s)[i])
      rw [hc]
      refine Ev.step (fun q => by rw [impl_PressAll_L3]) ?_
      refine ev_pos (by omega) (ev_pos (by omega) (ev_pos (by omega) ?_))
      rw [byt_drop hc, w64 (n := (((bl s)[i]).toNat : Int)) (by omega) (by omega), w64_succ (by omega)]
      refine ev_bind (impl_Press_eq _ _ _ _ _ _ h1) ?_
      have hp := press_digits q.1 (((bl s)[i]).toNat : Int) h1
      unfold pressL
      refine ev_dom (fun h => ?_) (fun h => ?_)
      · rw [if_pos h]
        refine ev_pos (by simp only [List.length_singleton]; omega) ?_
        exact ih (i + 1) (by omega) (by omega) ((press q.1 (((bl s)[i]).toNat : Int)).1, q.2 ++ [(press q.1 (((bl s)[i]).toNat : Int)).2.1]) hp (by simp only [List.length_append, List.length_singleton]; omega)
      · rw [if_neg h]
        exact ih (i + 1) (by omega) (by omega) ((press q.1 (((bl s)[i]).toNat : Int)).1, q.2) hp (by show q.2.length ≤ i + 1; omega)
  obtain ⟨a, b, n, d, t⟩ := m
  exact key 0 false 0 0 ⟨#[]⟩ 0 (by omega) ((a, b, n, d, t), []) hm (Nat.le_refl _)
/- impl_ordersOf -/
theorem impl_ordersOf_eq (m : Menu) (i : In) (hm : m.2.2.2.2.size ≤ 1048580) (h1 : i.2.1.size ≤ 1048580) (h2 : i.2.2.size ≤ 1048580) : g_impl_ordersOf (m, i) = some (ordersOf m i) := by
  obtain ⟨a, s, t⟩ := i
  have e1 := impl_PressAll_eq m s hm h1
  have e2 := impl_ReadOrder_eq t h2
  have hl := pressAll_len m s
  have h1 : s.size ≤ 1048580 := h1
  show (g_impl_PressAll (m, s)).bind (fun v0 => (g_impl_ReadOrder t).bind fun v1 => if v1.2 = true then if (((List.length v0.2 + List.length [v1.1] : Nat) : Int) * ((32 : Nat) : Int)) ≤ 140737488355328 then some (v0.1, (v0.2 ++ [v1.1])) else none else some v0) = _
  simp only [e1, e2, Option.bind_some]
  unfold ordersOf
  simp only []
  by_cases h : (readO t).2 = true
  · have c : (((List.length (pressAll m s).2 + List.length [(readO t).1] : Nat) : Int) * ((32 : Nat) : Int)) ≤ 140737488355328 := by
      simp only [List.length_singleton]; omega
    rw [if_pos h, if_pos h, if_pos c]
  · rw [if_neg h, if_neg h]
/- impl_InOk -/
theorem impl_InOk_eq (i : In) : g_impl_InOk i = some (inOk i) := by
  obtain ⟨a, s, t⟩ := i
  unfold g_impl_InOk impl_InOk_ inOk
  simp only [impl_SenseOk_eq, Option.bind_some]
  cases senseOk a with
  | false => simp
  | true =>
    by_cases h : s.size ≤ 20
    · have c : ((s.size : Nat) : Int) ≤ 20 := by omega
      rw [if_pos rfl, if_pos c, decide_eq_true h]
      congr 1
      simp only [Bool.true_and]
      congr 1
      rw [eq_iff_iff]
      omega
    · have c : ¬ ((s.size : Nat) : Int) ≤ 20 := by omega
      rw [if_pos rfl, if_neg c, decide_eq_false h]
      rfl
/- impl_copyDevice -/
theorem impl_copyDevice_eq (p : Pump) (past : List Int) (alarm : Int) (m : Menu) (ts : List Tick) (ref : Int) (h1 : past.length ≤ 1048580) (h2 : ts.length ≤ 1048580) : g_impl_copyDevice (dev p past alarm m ts ref) = some (dev p past alarm m ts ref) := by
  have e := impl_copyGuard_eq past alarm (by omega)
  unfold g_impl_copyDevice impl_copyDevice_ dev
  simp only [e, Option.bind_some, List.nil_append, List.length_nil]
  have c : (((0 + ts.length : Nat) : Int) * ((24 : Nat) : Int)) ≤ 140737488355328 := by omega
  rw [if_pos c]
/- impl_TickDevice -/
def finT (past : List Int) (alarm : Int) (m' : Menu) (ts : List Tick) (i : In) (os : List Order) (q : Pump) (r : Int) : Device :=
  dev (tickP q past (feel past alarm i.1 (seenF os))) (pass past (feel past alarm i.1 (seenF os)) (allow past (feel past alarm i.1 (seenF os)) (wants q))) (feel past alarm i.1 (seenF os)) m' (ts ++ [(allow past (feel past alarm i.1 (seenF os)) (wants q), feel past alarm i.1 (seenF os), (tickP q past (feel past alarm i.1 (seenF os))).1)]) r
set_option maxHeartbeats 2000000 in
theorem impl_TickDevice_eq (p : Pump) (past : List Int) (alarm : Int) (m : Menu) (ts : List Tick) (ref : Int) (i : In) (hp : past.length ≤ 1048580) (hm : m.2.2.2.2.size ≤ 1048580) (ht : ts.length ≤ 1048580) :
    g_impl_TickDevice (dev p past alarm m ts ref, i) = some (tickD p past alarm m ts ref i) := by
  refine evG_eq ?_
  obtain ⟨a, b, n, d, s⟩ := m
  have hm : s.size ≤ 1048580 := hm
  have e1 := impl_copyDevice_eq p past alarm (a, b, n, d, s) ts ref hp ht
  have e2 := impl_DeviceOk_eq p past alarm (a, b, n, d, s) ts ref (by omega) hm
  have e3 := impl_InOk_eq i
  unfold impl_TickDevice_ tickD
  refine ev_bind e1 (ev_bind e2 ?_)
  by_cases hd : deviceOk p past alarm (a, b, n, d, s) ts ref = true
  case neg =>
    rw [if_neg (fun q => hd q.1)]
    exact ev_neg hd ev_some
  refine ev_pos hd (ev_bind e3 ?_)
  by_cases hi : inOk i = true
  case neg =>
    rw [if_neg (fun q => hi q.2.1)]
    exact ev_neg hi ev_some
  refine ev_pos hi ?_
  by_cases h2 : ts.length = 200
  case pos =>
    rw [if_neg (fun q => q.2.2.1 h2)]
    exact ev_pos (by omega) ev_some
  refine ev_neg (by omega) ?_
  by_cases h9 : ref ≤ 999999900
  case neg =>
    rw [if_neg (fun q => h9 q.2.2.2)]
    exact ev_pos (by omega) ev_some
  refine ev_neg (by omega) ?_
  rw [if_pos ⟨hd, hi, h2, h9⟩]
  obtain ⟨i1, i2, i3⟩ := inOk_den hi
  obtain ⟨q1, q2, q3, q4, q5, q6⟩ := deviceOk_den hd
  have e4 := impl_ordersOf_eq (a, b, n, d, s) i hm (by omega) (by omega)
  have e5 := impl_ReadOrder_eq i.2.2 (by omega)
  have hlen := ordersOf_len (a, b, n, d, s) i
  refine ev_bind e4 ?_
  unfold behind
  generalize hos : (ordersOf (a, b, n, d, s) i).2 = os at hlen ⊢
  generalize (ordersOf (a, b, n, d, s) i).1 = m'
  simp only []
  have key : ∀ (d2 j : Nat), j + d2 = os.length → ∀ (q : Pump) (r : Int), 0 ≤ r → r ≤ 999999900 + (j : Int) →
      Ev (fun k => impl_TickDevice_L7 (fun _ => g_impl_Allow) (fun _ => g_impl_DeviceOk) (fun _ => g_impl_Device__order) (fun _ => g_impl_Feel) (fun _ => g_impl_Give) (fun _ => g_impl_InOk) (fun _ => g_impl_Pass) (fun _ => g_impl_ReadOrder) (fun _ => g_impl_Wants) (fun _ => g_impl_copyDevice) (fun _ => g_impl_isSeen) (fun _ => g_impl_ordersOf) k
        ((os.length : Int), (j : Int), i.1, i.2.1, i.2.2, 0, 0, 0, 0, 0, 0, 0, 0, 0, 0, false, 0, 0, (⟨#[]⟩ : ByteArray), 0, q.1, q.2.1, q.2.2.1, q.2.2.2.1, q.2.2.2.2.1, q.2.2.2.2.2.1, q.2.2.2.2.2.2.1, q.2.2.2.2.2.2.2, alarm, m'.1, m'.2.1, m'.2.2.1, m'.2.2.2.1, m'.2.2.2.2, r, os, [], [], past, ts, ()))
        (finT past alarm m' ts i os (takeL (os.drop j) q r).1 (if i.2.2.size ≠ 0 ∧ (readO i.2.2).2 = false then (takeL (os.drop j) q r).2 + 1 else (takeL (os.drop j) q r).2)) := by
    intro d2
    induction d2 with
    | zero =>
      intro j hj q r hr0 hr
      have ej : os.drop j = [] := List.drop_eq_nil_of_le (by omega)
      rw [ej]
      simp only [takeL]
      refine Ev.step (fun w => by rw [impl_TickDevice_L7]) ?_
      refine ev_neg (by omega) (ev_bind e5 ?_)
      by_cases hz : i.2.2 = ⟨#[]⟩
      · have hz2 : i.2.2.size = 0 := (eq_empty _).1 hz
        have hk2 : ¬ (i.2.2.size ≠ 0 ∧ (readO i.2.2).2 = false) := fun w => w.1 hz2
        rw [if_neg hk2]
        refine ev_pos hz ?_
        refine ev_bind (impl_isSeen_eq os (by omega)) (ev_bind (impl_Feel_eq past alarm i.1 (seenF os) (by omega)) (ev_bind (impl_Wants_eq q) (ev_bind (impl_Allow_eq past (feel past alarm i.1 (seenF os)) (wants q) (by omega)) (ev_dom (fun ha => ?_) (fun ha => ?_)))))
        · refine ev_bind (impl_Give_eq q _) (ev_bind (impl_Pass_eq past _ _ (by omega)) (ev_pos (by simp only [List.length_singleton]; omega) (ev_eq ?_)))
          have ha : feel past alarm i.1 (seenF os) = 0 := ha
          unfold finT tickP
          rw [if_pos ha]
          rfl
        · refine ev_bind (impl_Pass_eq past _ _ (by omega)) (ev_pos (by simp only [List.length_singleton]; omega) (ev_eq ?_))
          have ha : ¬ feel past alarm i.1 (seenF os) = 0 := ha
          unfold finT tickP
          rw [if_neg ha]
          rfl
      · have hz2 : i.2.2.size ≠ 0 := fun w => hz ((eq_empty _).2 w)
        refine ev_neg hz ?_
        by_cases hk : (readO i.2.2).2 = true
        · have hk2 : ¬ (i.2.2.size ≠ 0 ∧ (readO i.2.2).2 = false) := fun w => by rw [hk] at w; cases w.2
          rw [if_neg hk2]
          refine ev_pos hk ?_
          refine ev_bind (impl_isSeen_eq os (by omega)) (ev_bind (impl_Feel_eq past alarm i.1 (seenF os) (by omega)) (ev_bind (impl_Wants_eq q) (ev_bind (impl_Allow_eq past (feel past alarm i.1 (seenF os)) (wants q) (by omega)) (ev_dom (fun ha => ?_) (fun ha => ?_)))))
          · refine ev_bind (impl_Give_eq q _) (ev_bind (impl_Pass_eq past _ _ (by omega)) (ev_pos (by simp only [List.length_singleton]; omega) (ev_eq ?_)))
            have ha : feel past alarm i.1 (seenF os) = 0 := ha
            unfold finT tickP
            rw [if_pos ha]
            rfl
          · refine ev_bind (impl_Pass_eq past _ _ (by omega)) (ev_pos (by simp only [List.length_singleton]; omega) (ev_eq ?_))
            have ha : ¬ feel past alarm i.1 (seenF os) = 0 := ha
            unfold finT tickP
            rw [if_neg ha]
            rfl
        · have hk2 : i.2.2.size ≠ 0 ∧ (readO i.2.2).2 = false := ⟨hz2, by simpa using hk⟩
          rw [if_pos hk2, w64 (n := r + 1) (by omega) (by omega)]
          refine ev_neg hk ?_
          refine ev_bind (impl_isSeen_eq os (by omega)) (ev_bind (impl_Feel_eq past alarm i.1 (seenF os) (by omega)) (ev_bind (impl_Wants_eq q) (ev_bind (impl_Allow_eq past (feel past alarm i.1 (seenF os)) (wants q) (by omega)) (ev_dom (fun ha => ?_) (fun ha => ?_)))))
          · refine ev_bind (impl_Give_eq q _) (ev_bind (impl_Pass_eq past _ _ (by omega)) (ev_pos (by simp only [List.length_singleton]; omega) (ev_eq ?_)))
            have ha : feel past alarm i.1 (seenF os) = 0 := ha
            unfold finT tickP
            rw [if_pos ha]
            rfl
          · refine ev_bind (impl_Pass_eq past _ _ (by omega)) (ev_pos (by simp only [List.length_singleton]; omega) (ev_eq ?_))
            have ha : ¬ feel past alarm i.1 (seenF os) = 0 := ha
            unfold finT tickP
            rw [if_neg ha]
            rfl
    | succ d2 ih =>
      intro j hj q r hr0 hr
      have hlt : j < os.length := by omega
      have hc : os.drop j = os[j] :: os.drop (j + 1) := List.drop_eq_getElem_cons hlt
      rw [hc]
      simp only [takeL]
      refine Ev.step (fun w => by rw [impl_TickDevice_L7]) ?_
      refine ev_pos (by omega) (ev_pos (by omega) (ev_pos (by omega) ?_))
      rw [getD_drop hc, w64_succ (by omega)]
      refine ev_bind (impl_Device__order_eq q past alarm m' ts r os[j]) (ev_dom (fun hb => ?_) (fun hb => ?_))
      · have hb : (takeO q os[j]).2 = true := hb
        rw [if_pos hb]
        exact ih (j + 1) (by omega) (takeO q os[j]).1 r hr0 (by omega)
      · have hb : ¬ (takeO q os[j]).2 = true := hb
        rw [if_neg hb]
        have ew : wrap64 (r + 1) = r + 1 := w64 (by omega) (by omega)
        simp only [ew]
        exact ih (j + 1) (by omega) (takeO q os[j]).1 (r + 1) (by omega) (by omega)
  exact key os.length 0 (by omega) p ref q5 (by omega)
/- impl_PumpNew -/
theorem impl_PumpNew_eq : g_impl_PumpNew () = some (0, 0, 1, 0, 0, 0, 0, 0) := rfl
/- impl_DeviceNew -/
theorem impl_DeviceNew_eq : g_impl_DeviceNew () = some devNew := by
  unfold g_impl_DeviceNew impl_DeviceNew_
  have e1 := impl_MenuNew_eq
  have e2 := impl_PumpNew_eq
  simp only [e1, e2, Option.bind_some]
  rfl
/- impl_RunDevice -/
set_option maxHeartbeats 1000000 in
theorem impl_RunDevice_eq (l : List In) (hl : l.length ≤ 1048580) : g_impl_RunDevice l = some (runD l) := by
  refine evG_eq ?_
  unfold impl_RunDevice_ runD
  by_cases h : 150 < l.length
  · rw [if_pos h]
    exact ev_pos (by omega) (ev_eq rfl)
  rw [if_neg h]
  refine ev_neg (by omega) ?_
  have run : ∀ (d2 j : Nat), j + d2 = l.length → ∀ d : Device, DOk d →
      Ev (fun k => impl_RunDevice_L11 (fun _ => g_impl_DeviceNew) (fun _ => g_impl_InOk) (fun _ => g_impl_TickDevice) k ((l.length : Int), (j : Int), l, 0, 0, 0, 0, 0, 0, 0, 0, 0, 0, false, 0, 0, (⟨#[]⟩ : ByteArray), 0, d.1, d.2.1, d.2.2.1, d.2.2.2.1, d.2.2.2.2.1, d.2.2.2.2.2.1, d.2.2.2.2.2.2.1, d.2.2.2.2.2.2.2.1, d.2.2.2.2.2.2.2.2.2.1, d.2.2.2.2.2.2.2.2.2.2.1, d.2.2.2.2.2.2.2.2.2.2.2.1, d.2.2.2.2.2.2.2.2.2.2.2.2.1, d.2.2.2.2.2.2.2.2.2.2.2.2.2.1, d.2.2.2.2.2.2.2.2.2.2.2.2.2.2.1, d.2.2.2.2.2.2.2.2.2.2.2.2.2.2.2.2, [], [], d.2.2.2.2.2.2.2.2.1, d.2.2.2.2.2.2.2.2.2.2.2.2.2.2.2.1, ())) ((l.drop j).foldl tick d, true) := by
    intro d2
    induction d2 with
    | zero =>
      intro j hj d hd
      have ej : l.drop j = [] := List.drop_eq_nil_of_le (by omega)
      rw [ej]
      refine Ev.step (fun w => by rw [impl_RunDevice_L11]) ?_
      exact ev_neg (by omega) (ev_eq rfl)
    | succ d2 ih =>
      intro j hj d hd
      have hlt : j < l.length := by omega
      have hc : l.drop j = l[j] :: l.drop (j + 1) := List.drop_eq_getElem_cons hlt
      rw [hc]
      refine Ev.step (fun w => by rw [impl_RunDevice_L11]) ?_
      refine ev_pos (by omega) (ev_pos (by omega) (ev_pos (by omega) ?_))
      rw [getD_drop hc, w64_succ (by omega)]
      have hq : g_impl_TickDevice (d, l[j]) = some (tick d l[j]) := by
        obtain ⟨p, past, alarm, m, ts, ref, rfl, hk⟩ := hd
        obtain ⟨_, h2, h3, h4, _, _⟩ := deviceOk_den hk
        have h5 := menu_size h3
        have h6 := (guardOk_den h2).1
        rw [tick_dev]
        exact impl_TickDevice_eq p past alarm m ts ref l[j] (by omega) (by omega) (by omega)
      refine ev_bind hq ?_
      exact ih (j + 1) (by omega) (tick d l[j]) (hd.tick _)
  have all : ∀ (d2 j : Nat), j + d2 = l.length →
      Ev (fun k => impl_RunDevice_L4 (fun _ => g_impl_DeviceNew) (fun _ => g_impl_InOk) (fun _ => g_impl_TickDevice) k ((l.length : Int), (j : Int), l, 0, 0, 0, 0, 0, 0, 0, 0, 0, 0, false, 0, 0, (⟨#[]⟩ : ByteArray), 0, [], [], ())) (if (l.drop j).all inOk = true then (l.foldl tick devNew, true) else (devZero, false)) := by
    intro d2
    induction d2 with
    | zero =>
      intro j hj
      have ej : l.drop j = [] := List.drop_eq_nil_of_le (by omega)
      rw [ej]
      have ht : ([] : List In).all inOk = true := rfl
      rw [if_pos ht]
      refine Ev.step (fun w => by rw [impl_RunDevice_L4]) ?_
      exact ev_neg (by omega) (ev_bind impl_DeviceNew_eq (run l.length 0 (by omega) devNew devNew_ok))
    | succ d2 ih =>
      intro j hj
      have hlt : j < l.length := by omega
      have hc : l.drop j = l[j] :: l.drop (j + 1) := List.drop_eq_getElem_cons hlt
      rw [hc]
      refine Ev.step (fun w => by rw [impl_RunDevice_L4]) ?_
      refine ev_pos (by omega) (ev_pos (by omega) (ev_pos (by omega) ?_))
      rw [getD_drop hc, w64_succ (by omega)]
      refine ev_bind (impl_InOk_eq l[j]) ?_
      have e : (l[j] :: l.drop (j + 1)).all inOk = (inOk l[j] && (l.drop (j + 1)).all inOk) := rfl
      rw [e]
      cases hk : inOk l[j] with
      | true =>
        rw [Bool.true_and]
        exact ev_pos rfl (ih (j + 1) (by omega))
      | false =>
        have hf : ¬ (false && (l.drop (j + 1)).all inOk) = true := by simp
        rw [if_neg hf]
        exact ev_neg (by simp) (ev_eq rfl)
  exact all l.length 0 (by omega)
/- impl_Unhex -/
def toI (l : List UInt8) : List Int := l.map fun x => (x.toNat : Int)
theorem bstr_toI (l : List UInt8) : bstr (toI l) = ofL l := by
  apply ba_ext
  rw [bl_ofL, bl_bstr]
  unfold toI
  rw [List.map_map]
  conv => rhs; rw [← List.map_id l]
  apply List.map_congr_left
  intro x _
  simp
theorem toI_app (l : List UInt8) (x : UInt8) : toI l ++ [(x.toNat : Int)] = toI (l ++ [x]) := by simp [toI]
theorem toI_len (l : List UInt8) : (toI l).length = l.length := by simp [toI]
def hexB (a b : UInt8) : UInt8 := UInt8.ofNat (16 * hexV a + hexV b).toNat
theorem hexB_wr {a b : UInt8} (ha : 0 ≤ hexV a) (hb : 0 ≤ hexV b) : wr .u8 (wrap64 (wrap64 (16 * hexV a) + hexV b)) = ((hexB a b).toNat : Int) := by
  have h1 := hexV_range a
  have h2 := hexV_range b
  unfold hexB
  generalize hexV a = x at *
  generalize hexV b = y at *
  have e1 : wrap64 (16 * x) = 16 * x := w64 (by omega) (by omega)
  have e2 : wrap64 (16 * x + y) = 16 * x + y := w64 (by omega) (by omega)
  rw [e1, e2, wr8, UInt8.toNat_ofNat']
  omega
/-- Pairs from a place on. -/
theorem drop_two {s : ByteArray} {i n : Nat} (h : i + 2 * (n + 1) = s.size) : ∃ x y r, (bl s).drop i = x :: y :: r ∧ (bl s).drop (i + 1) = y :: r ∧ (bl s).drop (i + 2) = r := by
  have hl := bl_len s
  have h1 : i < (bl s).length := by omega
  have h2 : i + 1 < (bl s).length := by omega
  have e1 : (bl s).drop i = (bl s)[i] :: (bl s).drop (i + 1) := List.drop_eq_getElem_cons h1
  have e2 : (bl s).drop (i + 1) = (bl s)[i + 1] :: (bl s).drop (i + 2) := List.drop_eq_getElem_cons h2
  exact ⟨_, _, _, by rw [e1, e2], e2, rfl⟩
def unhexR (acc : List UInt8) (l : List UInt8) : ByteArray × Bool := match unhexL l with
  | some r => (ofL (acc ++ r), true)
  | none => (⟨#[]⟩, false)
theorem unhexR_nil (acc : List UInt8) : unhexR acc [] = (ofL acc, true) := by simp [unhexR, unhexL]
theorem unhexR_bad {a b : UInt8} (acc r : List UInt8) (h : ¬ (0 ≤ hexV a ∧ 0 ≤ hexV b)) : unhexR acc (a :: b :: r) = (⟨#[]⟩, false) := by
  unfold unhexR
  rw [unhexL, if_neg h]
theorem unhexR_step {a b : UInt8} (acc r : List UInt8) (h : 0 ≤ hexV a ∧ 0 ≤ hexV b) : unhexR acc (a :: b :: r) = unhexR (acc ++ [hexB a b]) r := by
  unfold unhexR
  rw [unhexL, if_pos h]
  cases unhexL r with
  | none => rfl
  | some l => simp [hexB]
theorem unhexF_R (s : ByteArray) (h1 : s.size % 2 = 0) (h2 : s.size ≤ 40000) : unhexF s = unhexR [] (bl s) := by
  unfold unhexF unhexR
  rw [if_pos ⟨h1, h2⟩]
  cases unhexL (bl s) <;> simp
theorem hexAt (x : UInt8) : g_strings_IndexByte (hexS, (x.toNat : Int)) = some (hexV x) := by
  show some (indexByteF hexS (x.toNat : Int)) = _
  unfold indexByteF
  rw [← hex_index x]
  simp
theorem impl_Unhex_loop (s : ByteArray) (hs : s.size ≤ 40000) : ∀ (n i : Nat), i + 2 * n = s.size → ∀ acc : List UInt8, acc.length ≤ i →
    Ev (fun k => impl_Unhex_L5 (fun _ => g_strings_IndexByte) k (s, (i : Int), toI acc, ())) (unhexR acc ((bl s).drop i)) := by
  intro n
  induction n with
  | zero =>
    intro i hi acc ha
    rw [List.drop_eq_nil_of_le (by rw [bl_len]; omega), unhexR_nil, ← bstr_toI]
    exact Ev.step (fun q => by rw [impl_Unhex_L5]) (ev_neg (by omega) ev_some)
  | succ n ih =>
    intro i hi acc ha
    obtain ⟨x, y, r, e1, e2, e3⟩ := drop_two hi
    have b1 := byt_drop e1
    have b2 := byt_drop (i := i + 1) e2
    have w1 : wrap64 ((i : Int) + 1) = ((i + 1 : Nat) : Int) := by rw [w64_succ (by omega)]; rfl
    have w2 : wrap64 ((i : Int) + 2) = ((i + 2 : Nat) : Int) := by rw [w64 (by omega) (by omega)]; rfl
    refine Ev.step (fun q => by rw [impl_Unhex_L5]) ?_
    rw [w1, w2, b1, b2, e1]
    refine ev_pos (by omega) (ev_pos (by omega) (ev_pos (by omega) (ev_bind (hexAt x) (ev_pos (by omega) (ev_pos (by omega) (ev_bind (hexAt y) ?_))))))
    refine ev_dom (fun h => ?_) (fun h => ?_)
    · rw [unhexR_bad acc r (by omega)]; exact ev_some
    · refine ev_dom (fun h' => ?_) (fun h' => ?_)
      · rw [unhexR_bad acc r (by omega)]; exact ev_some
      · rw [hexB_wr (by omega) (by omega), toI_app, unhexR_step acc r (by omega)]
        refine ev_pos ?_ ?_
        · rw [toI_len]; simp only [List.length_singleton]; omega
        · rw [← e3]
          exact ih (i + 2) (by omega) _ (by simp only [List.length_append, List.length_singleton]; omega)
theorem tmod2 (n : Nat) : Int.tmod (n : Int) 2 = ((n % 2 : Nat) : Int) := by
  rw [Int.tmod_eq_emod_of_nonneg (by omega)]; omega
theorem impl_Unhex_eq (s : ByteArray) : g_impl_Unhex s = some (unhexF s) := by
  refine evG_eq ?_
  unfold impl_Unhex_
  refine ev_neg (by decide) ?_
  rw [tmod2]
  refine ev_dom (fun h => ?_) (fun h => ?_)
  · refine ev_dom (fun h' => ?_) (fun h' => ?_)
    · unfold unhexF; rw [if_neg (by omega)]; exact ev_some
    · rw [unhexF_R s (by omega) (by omega)]
      exact impl_Unhex_loop s (by omega) (s.size / 2) 0 (by omega) [] (Nat.le_refl _)
  · unfold unhexF; rw [if_neg (by omega)]; exact ev_some
/- impl_ReadSense -/
-- needs: impl_SenseNames
/-- From b on: which senses a text names. -/
def senseR (s : ByteArray) : Nat → Nat → Int × Bool
  | 0, _ => (0, false)
  | d + 1, b => if senseT b = s then ((b : Int), true) else senseR s d (b + 1)
def senseRd (s : ByteArray) : Int × Bool := senseR s 16 0
theorem impl_ReadSense_eq (s : ByteArray) : g_impl_ReadSense s = some (senseRd s) := by
  refine evG_eq ?_
  have key : ∀ (d i : Nat), i + d = 16 → Ev (fun k => impl_ReadSense_L2 (fun _ => g_impl_SenseNames) k (s, (i : Int), ())) (senseR s d i) := by
    intro d
    induction d with
    | zero =>
      intro i hi
      refine Ev.step (fun q => by rw [impl_ReadSense_L2]) ?_
      exact ev_neg (by omega) ev_some
    | succ d ih =>
      intro i hi
      refine Ev.step (fun q => by rw [impl_ReadSense_L2]) ?_
      rw [w64_succ (by omega)]
      refine ev_pos (by omega) (ev_bind (impl_SenseNames_eq i (by omega)) (ev_dom (fun h => ?_) (fun h => ?_)))
      · rw [senseR, if_pos h]; exact ev_some
      · rw [senseR, if_neg h]; exact ih (i + 1) (by omega)
  exact key 16 0 rfl
/- impl_readIn -/
-- needs: impl_ReadSense impl_Unhex impl_within impl_InOk
abbrev tTick : ByteArray := ⟨#[116, 105, 99, 107]⟩
abbrev tFeel : ByteArray := ⟨#[102, 101, 101, 108]⟩
abbrev tKeys : ByteArray := ⟨#[107, 101, 121, 115]⟩
abbrev tLink : ByteArray := ⟨#[108, 105, 110, 107]⟩
abbrev tMany : ByteArray := ⟨#[109, 97, 110, 121]⟩
abbrev e0 : ByteArray := ⟨#[]⟩
/-- What a line of two parts tells, so many times; 0: it is none. -/
def line2 (a b : ByteArray) : In × Int :=
  if a = tFeel then (if (senseRd b).2 = true then (((senseRd b).1, e0, e0), 1) else ((0, e0, e0), 0))
  else if a = tKeys then ((0, ofL (turnL 46 10 (bl b)), e0), 1)
  else if a = tLink then (if (unhexF b).2 = true then ((0, e0, (unhexF b).1), 1) else ((0, e0, e0), 0))
  else if a = tMany then (if (decR b).2 = true ∧ 1 ≤ (decR b).1 ∧ (decR b).1 ≤ 50 then ((0, e0, e0), (decR b).1) else ((0, e0, e0), 0))
  else ((0, e0, e0), 0)
def lineF : List ByteArray → In × Int
  | [a] => if a = tTick then ((0, e0, e0), 1) else ((0, e0, e0), 0)
  | [a, b] => line2 a b
  | _ => ((0, e0, e0), 0)
def lineOk (p : List ByteArray) : Bool := decide ((lineF p).2 ≠ 0) && inOk (lineF p).1
theorem inOk_E : inOk (0, e0, e0) = true := by decide
theorem decR_range (s : ByteArray) : 0 ≤ (decR s).1 ∧ (decR s).1 ≤ 1000000000 := by
  unfold decR
  split
  · rename_i h
    have := h.2.2.1
    exact ⟨by omega, by show ((valL 0 (bl s) : Nat) : Int) ≤ _; omega⟩
  · exact ⟨by decide, by decide⟩
theorem impl_readIn_eq (p : List ByteArray) (hz : ∀ s ∈ p, s.size ≤ 1000) : ∃ r, g_impl_readIn p = some r ∧ r.2.2 = lineOk p ∧ (lineOk p = true → (r.1, r.2.1) = lineF p) := by
  unfold g_impl_readIn impl_readIn_
  match p, hz with
  | [], _ => exact ⟨_, rfl, rfl, fun h => by cases h⟩
  | [a], _ =>
    by_cases h : a = tTick
    · subst h
      exact ⟨_, rfl, rfl, fun _ => rfl⟩
    · refine ⟨((0, e0, e0), 1, false), ?_, ?_, ?_⟩
      · show some _ = _
        have : decide (a = tTick) = false := decide_eq_false h
        show some (((0 : Int), e0, e0), (1 : Int), decide (a = tTick)) = _
        rw [this]
      · have e : lineF [a] = ((0, e0, e0), 0) := if_neg h
        unfold lineOk
        rw [e]
        rfl
      · have e : lineF [a] = ((0, e0, e0), 0) := if_neg h
        unfold lineOk
        rw [e]
        intro q
        cases q
  | [a, b], hz =>
    have hb : b.size ≤ 1000 := hz b (by simp)
    have eS := impl_ReadSense_eq b
    have eU := impl_Unhex_eq b
    have eR : g_strings_ReplaceAll (b, (⟨#[46]⟩ : ByteArray), (⟨#[10]⟩ : ByteArray)) = some (ofL (turnL 46 10 (bl b))) := replaceF_one b 46 10 (by decide) (by omega)
    have eD : g_impl_ReadDecimal b = some (decR b) := by
      show readDecG b = _
      unfold readDecG
      rw [if_pos (by omega), readDec_eq]
    show ∃ r : In × Int × Bool, (if a = tFeel then (g_impl_ReadSense b).bind _ else if a = tKeys then (g_strings_ReplaceAll (b, (⟨#[46]⟩ : ByteArray), (⟨#[10]⟩ : ByteArray))).bind _ else if a = tLink then (g_impl_Unhex b).bind _ else if a = tMany then (g_impl_ReadDecimal b).bind _ else some _) = some r ∧ r.2.2 = lineOk [a, b] ∧ (lineOk [a, b] = true → (r.1, r.2.1) = lineF [a, b])
    have eL : lineF [a, b] = line2 a b := rfl
    unfold lineOk
    rw [eL]
    unfold line2
    by_cases h1 : a = tFeel
    · rw [if_pos h1, eS]
      simp only [Option.bind_some, if_pos h1]
      by_cases h : (senseRd b).2 = true
      · simp only [if_pos h, impl_InOk_eq, Option.bind_some]
        exact ⟨_, rfl, rfl, fun _ => rfl⟩
      · simp only [if_neg h]
        exact ⟨_, rfl, rfl, fun q => by cases q⟩
    · rw [if_neg h1]
      simp only [if_neg h1]
      by_cases h2 : a = tKeys
      · rw [if_pos h2, eR]
        simp only [Option.bind_some, if_pos h2, impl_InOk_eq]
        exact ⟨_, rfl, rfl, fun _ => rfl⟩
      · rw [if_neg h2]
        simp only [if_neg h2]
        by_cases h3 : a = tLink
        · rw [if_pos h3, eU]
          simp only [Option.bind_some, if_pos h3]
          by_cases h : (unhexF b).2 = true
          · simp only [if_pos h, impl_InOk_eq, Option.bind_some]
            exact ⟨_, rfl, rfl, fun _ => rfl⟩
          · simp only [if_neg h]
            exact ⟨_, rfl, rfl, fun q => by cases q⟩
        · rw [if_neg h3]
          simp only [if_neg h3]
          by_cases h4 : a = tMany
          · rw [if_pos h4, eD]
            simp only [Option.bind_some, if_pos h4]
            by_cases h : (decR b).2 = true
            · simp only [if_pos h, impl_within_eq, Option.bind_some]
              by_cases h5 : 1 ≤ (decR b).1 ∧ (decR b).1 ≤ 50
              · have h6 : (decR b).2 = true ∧ 1 ≤ (decR b).1 ∧ (decR b).1 ≤ 50 := ⟨h, h5⟩
                have h7 : decide ((decR b).1 ≠ 0) = true := decide_eq_true (by omega)
                simp only [decide_eq_true h5, if_true, impl_InOk_eq, Option.bind_some, if_pos h6, h7, Bool.true_and]
                exact ⟨_, rfl, rfl, fun _ => rfl⟩
              · have h6 : ¬ ((decR b).2 = true ∧ 1 ≤ (decR b).1 ∧ (decR b).1 ≤ 50) := fun q => h5 q.2
                simp only [decide_eq_false h5, if_neg Bool.false_ne_true, if_neg h6]
                exact ⟨_, rfl, rfl, fun q => by cases q⟩
            · have h6 : ¬ ((decR b).2 = true ∧ 1 ≤ (decR b).1 ∧ (decR b).1 ≤ 50) := fun q => h q.1
              simp only [if_neg h, if_neg h6]
              exact ⟨_, rfl, rfl, fun q => by cases q⟩
          · rw [if_neg h4]
            simp only [if_neg h4]
            exact ⟨_, rfl, rfl, fun q => by cases q⟩
  | a :: b :: c :: r, _ =>
    have c1 : ¬ (((a :: b :: c :: r).length : Nat) : Int) = 1 := by simp only [List.length_cons]; omega
    have c2 : ¬ (((a :: b :: c :: r).length : Nat) : Int) = 2 := by simp only [List.length_cons]; omega
    simp only [if_neg c1, if_neg c2]
    exact ⟨_, rfl, rfl, fun h => by cases h⟩
/- impl_PartsOf -/
-- needs: impl_within
theorem bytesOk_loop (s : ByteArray) (hs : s.size ≤ 600) (out : List ByteArray) (r : List ByteArray × Bool)
    (hr : (bl s).all okB = true → Ev (fun k => impl_PartsOf_L5 (fun _ => g_impl_within) (fun _ => g_strings_Split) k (s, (s.size : Int), out, ())) r)
    (hn : ¬ (bl s).all okB = true → r = ([], false)) : ∀ (d i : Nat), i + d = s.size → ((bl s).take i).all okB = true →
    Ev (fun k => impl_PartsOf_L5 (fun _ => g_impl_within) (fun _ => g_strings_Split) k (s, (i : Int), out, ())) r := by
  intro d
  induction d with
  | zero =>
    intro i hi ht
    have e : i = s.size := by omega
    subst e
    rw [List.take_of_length_le (by rw [bl_len]; exact Nat.le_refl _)] at ht
    exact hr ht
  | succ d ih =>
    intro i hi ht
    have hl : i < (bl s).length := by rw [bl_len]; omega
    have e1 : (bl s).drop i = (bl s)[i] :: (bl s).drop (i + 1) := List.drop_eq_getElem_cons hl
    have b1 := byt_drop e1
    have hx := ((bl s)[i]).toNat_lt
    have e2 : (bl s).take (i + 1) = (bl s).take i ++ [(bl s)[i]] := by rw [List.take_succ_eq_append_getElem hl]
    refine Ev.step (fun q => by rw [impl_PartsOf_L5]) ?_
    rw [b1, w64 (n := (((bl s)[i]).toNat : Int)) (by omega) (by omega), w64_succ (by omega)]
    refine ev_pos (by omega) (ev_pos (by omega) (ev_pos (by omega) (ev_bind (impl_within_eq _ _ _) ?_)))
    by_cases hb : okB (bl s)[i] = true
    · have hb' := of_decide_eq_true hb
      refine ev_pos (decide_eq_true (by omega)) ?_
      refine ih (i + 1) (by omega) ?_
      rw [e2, List.all_append, ht]
      simp [hb]
    · refine ev_neg (fun q => hb (decide_eq_true (by have := of_decide_eq_true q; omega))) ?_
      rw [hn (fun q => hb (List.all_eq_true.1 q _ (List.getElem_mem hl)))]
      exact ev_some
theorem ofL_eq_nil (p : List UInt8) : ofL p = (⟨#[]⟩ : ByteArray) ↔ p = [] := by
  constructor
  · intro h
    have := congrArg bl h
    rw [bl_ofL] at this
    exact this
  · rintro rfl; rfl
theorem keep_loop (b : List (List UInt8)) (hb : b.length ≤ 100000) (r : List ByteArray × Bool) : ∀ (d i : Nat), i + d = b.length → ∀ out : List ByteArray, out.length ≤ i → 
    r = (if (out ++ (keepL (b.drop i)).map ofL).length ≤ 10 then (out ++ (keepL (b.drop i)).map ofL, true) else ([], false)) →
    Ev (fun k => impl_PartsOf_L10 (fun _ => g_impl_within) (fun _ => g_strings_Split) k (((b.map ofL).length : Int), (i : Int), out, b.map ofL, ())) r := by
  have hlen : (b.map ofL).length = b.length := List.length_map _
  intro d
  induction d with
  | zero =>
    intro i hi out ho hr
    rw [List.drop_eq_nil_of_le (by omega)] at hr
    have e : out ++ (keepL []).map ofL = out := by simp [keepL]
    rw [e] at hr
    refine Ev.step (fun q => by rw [impl_PartsOf_L10]) ?_
    refine ev_neg (by omega) ?_
    subst hr
    refine ev_dom (fun h => ?_) (fun h => ?_)
    · rw [if_neg (by omega)]; exact ev_some
    · rw [if_pos (by omega)]; exact ev_some
  | succ d ih =>
    intro i hi out ho hr
    have hl : i < b.length := by omega
    have hl2 : i < (b.map ofL).length := by omega
    have e1 : b.drop i = b[i] :: b.drop (i + 1) := List.drop_eq_getElem_cons hl
    have hg : (b.map ofL).getD (i : Int).toNat (⟨#[]⟩ : ByteArray) = ofL b[i] := by rw [getD_lt hl2, List.getElem_map]
    rw [e1] at hr
    refine Ev.step (fun q => by rw [impl_PartsOf_L10]) ?_
    rw [hg, w64_succ (by omega)]
    refine ev_pos (by omega) (ev_pos (by omega) (ev_pos (by omega) (ev_dom (fun h => ?_) (fun h => ?_))))
    · have hn : b[i] = [] := (ofL_eq_nil _).1 h
      rw [hn] at hr
      exact ih (i + 1) (by omega) out (by omega) hr
    · have hn : ¬ b[i] = [] := fun q => h ((ofL_eq_nil _).2 q)
      have ek : keepL (b[i] :: b.drop (i + 1)) = b[i] :: keepL (b.drop (i + 1)) := by
        unfold keepL
        rw [List.filter_cons, if_pos]
        cases hq : b[i] with
        | nil => exact absurd hq hn
        | cons _ _ => rfl
      rw [ek] at hr
      refine ev_pos (by simp only [List.length_singleton]; omega) ?_
      refine ih (i + 1) (by omega) (out ++ [ofL b[i]]) (by simp only [List.length_append, List.length_singleton]; omega) ?_
      rw [hr]
      simp
theorem cutL_len (c : UInt8) : ∀ l : List UInt8, (cutL c l).length ≤ l.length + 1
  | [] => Nat.le_refl _
  | b :: l => by
    have := cutL_len c l
    unfold cutL
    split
    · simp only [List.length_cons]; omega
    · split
      · simp
      · rename_i p ps h
        rw [h] at this
        simp only [List.length_cons] at this ⊢
        omega
theorem impl_PartsOf_eq (s : ByteArray) (hz : s.size ≤ 1048576) : g_impl_PartsOf s = some (partsF s) := by
  refine evG_eq ?_
  unfold impl_PartsOf_
  refine ev_dom (fun h => ?_) (fun h => ?_)
  · unfold partsF okLine
    rw [if_neg (fun q => by have := q.1; rw [Bool.and_eq_true] at this; have := of_decide_eq_true this.1; omega)]
    exact ev_some
  · have hs : s.size ≤ 600 := by omega
    refine bytesOk_loop s hs [] _ (fun hok => ?_) (fun hno => ?_) s.size 0 (by omega) rfl
    · refine Ev.step (fun q => by rw [impl_PartsOf_L5]) ?_
      refine ev_neg (by omega) (ev_bind (splitF_one s 32 (by omega)) ?_)
      have hc := cutL_len 32 (bl s)
      rw [bl_len] at hc
      refine keep_loop (cutL 32 (bl s)) (by omega) _ (cutL 32 (bl s)).length 0 (by omega) [] (Nat.le_refl _) ?_
      unfold partsF okLine
      rw [hok, decide_eq_true hs]
      simp
    · unfold partsF okLine
      rw [if_neg (fun q => hno (by have := q.1; rw [Bool.and_eq_true] at this; exact this.2))]
/- impl_linesOf -/
-- needs: impl_PartsOf
theorem impl_linesOf_eq (s : ByteArray) (hz : s.size ≤ 1048576) : g_impl_linesOf s = some (linesF s) := by
  unfold g_impl_linesOf impl_linesOf_ linesF
  have e := splitF_one s 10 (by omega)
  have e' : g_strings_Split (s, (⟨#[10]⟩ : ByteArray)) = some ((cutL 10 (bl s)).map ofL) := e
  have hc := cutL_len 10 (bl s)
  rw [bl_len] at hc
  have hne := cutL_ne 10 (bl s)
  simp only [e', Option.bind_some]
  generalize cutL 10 (bl s) = c at hc hne
  have hl : (c.map ofL).length = c.length := List.length_map _
  have h0 : 0 < c.length := List.length_pos_iff.2 hne
  have w : wrap64 (((c.map ofL).length : Int) - 1) = ((c.length - 1 : Nat) : Int) := by rw [hl, w64 (by omega) (by omega)]; omega
  rw [w]
  have hlt : c.length - 1 < (c.map ofL).length := by omega
  rw [getD_lt hlt, List.getElem_map]
  rw [if_pos (by omega), if_pos (by omega)]
  have hlast : c.getLast? = some (c[c.length - 1]'(by omega)) := by
    rw [List.getLast?_eq_getElem?, List.getElem?_eq_getElem]
  unfold dropE
  rw [hlast]
  by_cases h : c[c.length - 1]'(by omega) = []
  · rw [if_pos ((ofL_eq_nil _).2 h), if_pos (by omega), if_pos (by omega), h, if_pos rfl]
    rw [Int.toNat_natCast, ← List.map_take, List.dropLast_eq_take]
  · rw [if_neg (fun q => h ((ofL_eq_nil _).1 q)), if_neg (fun q => h (Option.some.inj q))]
/- impl_ReadScript -/
-- needs: impl_readIn impl_PartsOf impl_linesOf
/-- A line of blanks, a remark. -/
def skipL : List ByteArray → Bool
  | [] => true
  | p :: _ => decide (byt p 0 = 35)
/-- What a script's lines tell. -/
def rsF : List ByteArray → Nat → List In → List In × Int
  | [], _, acc => (acc, 0)
  | l :: r, i, acc =>
    if (partsF l).2 = true then
      (if skipL (partsF l).1 = true then rsF r (i + 1) acc
       else if lineOk (partsF l).1 = true ∧ (acc.length : Int) + (lineF (partsF l).1).2 ≤ 150 then rsF r (i + 1) (acc ++ List.replicate (lineF (partsF l).1).2.toNat (lineF (partsF l).1).1)
       else ([], ((i : Int) + 1)))
    else ([], ((i : Int) + 1))
def readS (t : ByteArray) : List In × Int := if t.size ≤ 3000 ∧ (linesF t).length ≤ 120 then rsF (linesF t) 0 [] else ([], -1)
theorem keepL_ne {p : List UInt8} {l : List (List UInt8)} (h : p ∈ keepL l) : p ≠ [] := by
  unfold keepL at h
  have := (List.mem_filter.1 h).2
  intro q
  subst q
  cases this
theorem cutL_short (c : UInt8) : ∀ (l : List UInt8) (p : List UInt8), p ∈ cutL c l → p.length ≤ l.length
  | [], p, h => by
    rw [cutL, List.mem_singleton] at h
    subst h
    exact Nat.le_refl _
  | b :: l, p, h => by
    have ih := cutL_short c l
    unfold cutL at h
    split at h
    · rcases List.mem_cons.1 h with h | h
      · subst h; simp
      · have := ih p h
        simp only [List.length_cons]; omega
    · split at h
      · rw [List.mem_singleton] at h
        subst h
        simp
      · rename_i q qs hq
        rcases List.mem_cons.1 h with h | h
        · subst h
          have := ih q (by rw [hq]; exact List.mem_cons_self)
          simp only [List.length_cons]; omega
        · have := ih p (by rw [hq]; exact List.mem_cons_of_mem _ h)
          simp only [List.length_cons]; omega
theorem parts_mem (s : ByteArray) : ∀ p ∈ (partsF s).1, 0 < p.size ∧ p.size ≤ 1000 := by
  intro p hp
  unfold partsF at hp
  split at hp
  · rename_i h
    have h1 := h.1
    unfold okLine at h1
    rw [Bool.and_eq_true] at h1
    have h2 := of_decide_eq_true h1.1
    obtain ⟨q, hq, rfl⟩ := List.mem_map.1 hp
    have h3 := List.length_pos_iff.2 (keepL_ne hq)
    have h4 := cutL_short 32 (bl s) q ((List.mem_filter.1 hq).1)
    rw [bl_len] at h4
    rw [size_ofL]
    omega
  · cases hp
theorem lineF_range (p : List ByteArray) : 0 ≤ (lineF p).2 ∧ (lineF p).2 ≤ 50 := by
  unfold lineF
  split
  · split <;> exact ⟨by decide, by decide⟩
  · unfold line2
    repeat' split
    all_goals first
      | exact ⟨(by show (0 : Int) ≤ 0; decide), (by show (0 : Int) ≤ 50; decide)⟩
      | exact ⟨(by show (0 : Int) ≤ 1; decide), (by show (1 : Int) ≤ 50; decide)⟩
      | (rename_i h; exact ⟨by have := h.2.1; show 0 ≤ (decR _).1; omega, h.2.2⟩)
  · exact ⟨by decide, by decide⟩
theorem repl_snoc {α : Type} (l : List α) (x : α) (n : Nat) : l ++ List.replicate n x ++ [x] = l ++ List.replicate (n + 1) x := by
  rw [List.append_assoc]
  congr 1
  rw [List.replicate_succ']
section
noncomputable abbrev iL6 := impl_ReadScript_L6 (fun _ => g_impl_PartsOf) (fun _ => g_impl_linesOf) (fun _ => g_impl_readIn)
noncomputable abbrev iL16 := impl_ReadScript_L16 (fun _ => g_impl_PartsOf) (fun _ => g_impl_linesOf) (fun _ => g_impl_readIn)
theorem impl_rep (L : List ByteArray) (n i : Nat) (hi : i ≤ 1000000) (x : In) (out : List In) (ho : out.length + n ≤ 1000) (r : List In × Int)
    (h : Ev (fun k => iL6 k ((L.length : Int), (i : Int) + 1, out ++ List.replicate n x, L, ())) r) :
    ∀ (d j : Nat), j + d = n → Ev (fun k => iL16 k ((L.length : Int), (i : Int), (n : Int), (j : Int), out ++ List.replicate j x, x.1, x.2.1, x.2.2, L, ())) r := by
  intro d
  induction d with
  | zero =>
    intro j hj
    have e : j = n := by omega
    subst e
    refine Ev.step (fun q => by rw [iL16, impl_ReadScript_L16]) ?_
    rw [w64_succ (i := i) (by omega)]
    exact ev_neg (by omega) h
  | succ d ih =>
    intro j hj
    refine Ev.step (fun q => by rw [iL16, impl_ReadScript_L16]) ?_
    rw [w64_succ (i := j) (by omega)]
    refine ev_pos (by omega) (ev_pos (by simp only [List.length_append, List.length_replicate, List.length_singleton]; omega) ?_)
    have := ih (j + 1) (by omega)
    rw [← repl_snoc] at this
    exact this
theorem impl_rs_loop (L : List ByteArray) (hL : L.length ≤ 120) (hz : ∀ l ∈ L, l.size ≤ 1048576) : ∀ (d i : Nat), i + d = L.length → ∀ acc : List In, acc.length ≤ 150 → Ev (fun k => iL6 k ((L.length : Int), (i : Int), acc, L, ())) (rsF (L.drop i) i acc) := by
  intro d
  induction d with
  | zero =>
    intro i hi acc ha
    rw [List.drop_eq_nil_of_le (by omega), rsF]
    refine Ev.step (fun q => by rw [iL6, impl_ReadScript_L6]) ?_
    exact ev_neg (by omega) ev_some
  | succ d ih =>
    intro i hi acc ha
    have hl : i < L.length := by omega
    have e1 : L.drop i = L[i] :: L.drop (i + 1) := List.drop_eq_getElem_cons hl
    have hm : L[i] ∈ L := List.getElem_mem hl
    have hp := parts_mem L[i]
    rw [e1, rsF]
    refine Ev.step (fun q => by rw [iL6, impl_ReadScript_L6]) ?_
    rw [getD_lt hl, w64_succ (by omega)]
    refine ev_pos (by omega) (ev_pos (by omega) (ev_pos (by omega) (ev_bind (impl_PartsOf_eq _ (hz _ hm)) ?_)))
    by_cases h2 : (partsF L[i]).2 = true
    case neg =>
      rw [if_neg h2]
      exact ev_neg h2 (ev_neg h2 ev_some)
    rw [if_pos h2]
    generalize (partsF L[i]).1 = ps at hp
    refine ev_pos h2 ?_
    cases ps with
    | nil =>
      rw [if_pos (show skipL [] = true from rfl)]
      refine ev_pos rfl ?_
      exact ih (i + 1) (by omega) acc ha
    | cons p r =>
      have hp0 := hp p List.mem_cons_self
      have hlen : ¬ (((p :: r).length : Nat) : Int) = 0 := by simp only [List.length_cons]; omega
      have hlen2 : (0 : Int) < (((p :: r).length : Nat) : Int) := by simp only [List.length_cons]; omega
      have hg : (p :: r).getD (Int.toNat 0) (⟨#[]⟩ : ByteArray) = p := rfl
      rw [hg]
      refine ev_neg hlen (ev_pos (by decide) (ev_pos hlen2 (ev_pos (by decide) (ev_pos (by omega) (ev_dom (fun h => ?_) (fun h => ?_))))))
      · rw [if_pos (show skipL (p :: r) = true from decide_eq_true h)]
        exact ih (i + 1) (by omega) acc ha
      · rw [if_neg (show ¬ skipL (p :: r) = true from fun q => h (of_decide_eq_true q))]
        obtain ⟨v, hv, hok, hval⟩ := impl_readIn_eq (p :: r) (fun s hs => (hp s hs).2)
        have hr := lineF_range (p :: r)
        refine ev_pos h2 (ev_bind hv (ev_dom (fun h3 => ?_) (fun h3 => ?_)))
        · rw [hok] at h3
          have hv2 := hval h3
          have e2 : v.1 = (lineF (p :: r)).1 := congrArg Prod.fst hv2
          have e3 : v.2.1 = (lineF (p :: r)).2 := congrArg Prod.snd hv2
          rw [e2, e3]
          rw [w64 (by omega) (by omega)]
          refine ev_dom (fun h4 => ?_) (fun h4 => ?_)
          · rw [if_neg (fun q => by have := q.2; omega)]
            exact ev_some
          · rw [if_pos ⟨h3, by omega⟩]
            obtain ⟨n, hn⟩ : ∃ n : Nat, (lineF (p :: r)).2 = (n : Int) := ⟨_, (Int.toNat_of_nonneg hr.1).symm⟩
            rw [hn] at h4 ⊢
            rw [Int.toNat_natCast]
            have h5 := ih (i + 1) (by omega) (acc ++ List.replicate n (lineF (p :: r)).1) (by rw [List.length_append, List.length_replicate]; omega)
            have := impl_rep L n i (by omega) (lineF (p :: r)).1 acc (by omega) _ h5 n 0 (by omega)
            rw [List.replicate_zero, List.append_nil] at this
            exact this
        · rw [hok] at h3
          rw [if_neg (fun q => h3 q.1)]
          exact ev_some
end
theorem linesF_short (t : ByteArray) : ∀ l ∈ linesF t, l.size ≤ t.size := by
  intro l hl
  unfold linesF at hl
  obtain ⟨p, hp, rfl⟩ := List.mem_map.1 hl
  have hm : p ∈ cutL 10 (bl t) := by
    unfold dropE at hp
    split at hp
    · exact (List.dropLast_sublist _).subset hp
    · exact hp
  have := cutL_short 10 (bl t) p hm
  rw [size_ofL, ← bl_len t]
  exact this
theorem impl_ReadScript_eq (t : ByteArray) (ht : t.size ≤ 1048576) : g_impl_ReadScript t = some (readS t) := by
  refine evG_eq ?_
  unfold impl_ReadScript_ readS
  refine ev_bind (impl_linesOf_eq t ht) (ev_dom (fun h => ?_) (fun h => ?_))
  · rw [if_neg (fun q => by have := q.1; omega)]; exact ev_some
  · refine ev_dom (fun h' => ?_) (fun h' => ?_)
    · rw [if_neg (fun q => by have := q.2; omega)]; exact ev_some
    · rw [if_pos ⟨by omega, by omega⟩]
      have := impl_rs_loop (linesF t) (by omega) (fun l hl => Nat.le_trans (linesF_short t l hl) ht) (linesF t).length 0 (by omega) [] (by decide)
      exact this
/- impl_Console -/
-- needs: impl_ReadScript impl_RunDevice impl_ShowDevice impl_DeviceOk impl_Decimal
def decI (f : Int) : ByteArray := ⟨(Go.Lib.itoa f).toArray⟩
theorem decI_nat (n : Nat) : decI (n : Int) = decB n := by
  unfold decI decB
  rw [itoa_nat]
theorem impl_Decimal_int (f : Int) (h : I64 f) : g_impl_Decimal f = some (decI f) := by
  have e : g_strconv_Itoa f = some (decI f) := by
    show itoaF f = _
    unfold itoaF
    rw [if_pos (show -9223372036854775808 ≤ f ∧ f ≤ 9223372036854775807 from h)]
    rfl
  unfold g_impl_Decimal impl_Decimal_
  simp only [e, Option.bind_some]
/-- Texts with a blank between. -/
def jl (l : List ByteArray) : ByteArray := ofL (Go.Lib.join (l.map bl) [32])
theorem join_cons (a b : List UInt8) (l : List (List UInt8)) : Go.Lib.join (a :: b :: l) [32] = a ++ ([32] ++ Go.Lib.join (b :: l) [32]) := by
  unfold Go.Lib.join
  simp [List.intercalate]
theorem join_snoc (x : List UInt8) : ∀ (l : List (List UInt8)), l ≠ [] → Go.Lib.join (l ++ [x]) [32] = Go.Lib.join l [32] ++ ([32] ++ x)
  | [], h => absurd rfl h
  | [a], _ => by
    rw [List.singleton_append, join_cons]
    unfold Go.Lib.join
    simp [List.intercalate]
  | a :: b :: l, _ => by
    have := join_snoc x (b :: l) (by simp)
    rw [List.cons_append, List.cons_append, join_cons, join_cons, ← List.cons_append, this]
    simp
theorem jl_snoc (l : List ByteArray) (x : ByteArray) (h : l ≠ []) : jl (l ++ [x]) = (jl l ++ (⟨#[32]⟩ : ByteArray)) ++ x := by
  apply ba_ext
  unfold jl
  rw [bl_ofL, bl_append, bl_append, bl_ofL, List.map_append, List.map_singleton, join_snoc _ _ (by simpa using h)]
  simp [bl]
theorem jl_one (x : ByteArray) : jl [x] = x := by
  apply ba_ext
  unfold jl
  rw [bl_ofL]
  unfold Go.Lib.join
  simp [List.intercalate]
theorem jl_nil : jl [] = (⟨#[]⟩ : ByteArray) := rfl
theorem jl_size : ∀ (l : List ByteArray), (∀ x ∈ l, x.size ≤ 40) → (jl l).size ≤ 41 * l.length
  | [], _ => by rw [jl_nil]; exact Nat.le_refl _
  | [a], h => by
    have := h a List.mem_cons_self
    rw [jl_one]
    simp only [List.length_singleton]
    omega
  | a :: b :: l, h => by
    have h1 := h a List.mem_cons_self
    have h2 := jl_size (b :: l) (fun y hy => h y (List.mem_cons_of_mem _ hy))
    unfold jl at h2 ⊢
    rw [size_ofL] at h2 ⊢
    rw [List.map_cons, List.map_cons, join_cons]
    rw [List.map_cons] at h2
    have e : (bl a).length = a.size := bl_len a
    simp only [List.length_append, List.length_cons, List.length_nil] at h2 ⊢
    omega
/-- Pulses of ticks as words. -/
def wordsF (ts : List Tick) : List ByteArray := ts.map fun t => decB t.1.toNat
def outF (ts : List Tick) : ByteArray := if ts = [] then (⟨#[]⟩ : ByteArray) else jl (wordsF ts) ++ (⟨#[10]⟩ : ByteArray)
def showD (d : Device) : ByteArray := showX d.1.toNat d.2.2.2.2.2.2.1.toNat d.2.2.2.2.1.toNat d.2.2.2.2.2.2.2.2.2.1.toNat
def faultT (f : Int) : ByteArray := ((⟨#[102, 97, 117, 108, 116, 32]⟩ : ByteArray) ++ decI f) ++ (⟨#[10]⟩ : ByteArray)
def consF (t : ByteArray) : ByteArray := if (readS t).2 = 0 then outF ((readS t).1.foldl tick devNew).ticks ++ showD ((readS t).1.foldl tick devNew) else faultT (readS t).2
theorem decB_ne (n : Nat) : decB n ≠ (⟨#[]⟩ : ByteArray) := by
  intro q
  have := congrArg bl q
  rw [bl_decB] at this
  exact dec_ne n this
theorem jl_ne {l : List ByteArray} (h : l ≠ []) (hx : ∀ x ∈ l, x ≠ (⟨#[]⟩ : ByteArray)) : jl l ≠ (⟨#[]⟩ : ByteArray) := by
  intro q
  have q2 := congrArg bl q
  unfold jl at q2
  rw [bl_ofL] at q2
  match l, h, hx with
  | [a], _, hx =>
    have h1 := hx a List.mem_cons_self
    have : jl [a] = a := jl_one a
    exact h1 (this.symm.trans q)
  | a :: b :: l, _, _ =>
    rw [List.map_cons, List.map_cons, join_cons] at q2
    have := congrArg List.length q2
    simp [bl] at this
theorem showX_size (s g l a : Nat) (h1 : s ≤ 10000000000000) (h2 : g ≤ 10000000000000) (h3 : l ≤ 10000000000000) (h4 : a < 16) : (showX s g l a).size ≤ 40000000000000 := by
  have z1 := decB_size s
  have z2 := decB_size g
  have z3 := decB_size l
  have z4 : (senseT a).size ≤ 100 := senseT_size ⟨a, h4⟩
  have y1 : (⟨#[115, 116, 97, 116, 101, 32]⟩ : ByteArray).size = 6 := rfl
  have y2 : (⟨#[32, 103, 105, 118, 101, 110, 32]⟩ : ByteArray).size = 7 := rfl
  have y3 : (⟨#[32, 108, 101, 102, 116, 32]⟩ : ByteArray).size = 6 := rfl
  have y4 : (⟨#[32, 97, 108, 97, 114, 109, 32]⟩ : ByteArray).size = 7 := rfl
  have y5 : (⟨#[10]⟩ : ByteArray).size = 1 := rfl
  unfold showX
  simp only [size_append]
  omega
theorem showD_eq {p : Pump} {past : List Int} {alarm : Int} {m : Menu} {ts : List Tick} {ref : Int} (h : deviceOk p past alarm m ts ref = true) : ∃ s g l a : Nat, showD (dev p past alarm m ts ref) = showX s g l a ∧ p.1 = (s : Int) ∧ p.2.2.2.2.2.2.1 = (g : Int) ∧ p.2.2.2.2.1 = (l : Int) ∧ alarm = (a : Int) ∧ s ≤ 10000000000000 ∧ g ≤ 10000000000000 ∧ l ≤ 10000000000000 ∧ a < 16 := by
  obtain ⟨s, g, l, a, r1, r2, r3, r4, r5⟩ := show_nums h
  refine ⟨s, g, l, a, ?_, r1, r2, r3, r4, r5⟩
  have e1 : (dev p past alarm m ts ref).1 = (s : Int) := r1
  have e2 : (dev p past alarm m ts ref).2.2.2.2.2.2.1 = (g : Int) := r2
  have e3 : (dev p past alarm m ts ref).2.2.2.2.1 = (l : Int) := r3
  have e4 : (dev p past alarm m ts ref).2.2.2.2.2.2.2.2.2.1 = (a : Int) := r4
  unfold showD
  rw [e1, e2, e3, e4]
  simp only [Int.toNat_natCast]
theorem rsF_ok : ∀ (L : List ByteArray) (i : Nat) (acc : List In), acc.length ≤ 150 → acc.all inOk = true → (rsF L i acc).1.length ≤ 150 ∧ (rsF L i acc).1.all inOk = true ∧ 0 ≤ (rsF L i acc).2 ∧ (rsF L i acc).2 ≤ (i : Int) + L.length
  | [], i, acc, h, hk => by rw [rsF]; exact ⟨h, hk, Int.le_refl _, by show (0 : Int) ≤ _; omega⟩
  | l :: r, i, acc, h, hk => by
    rw [rsF]
    have hr := lineF_range (partsF l).1
    have bad : ([] : List In).length ≤ 150 ∧ ([] : List In).all inOk = true ∧ (0 : Int) ≤ (i : Int) + 1 ∧ (i : Int) + 1 ≤ (i : Int) + ((l :: r).length : Nat) := ⟨Nat.zero_le _, rfl, by omega, by simp only [List.length_cons]; omega⟩
    have up : ∀ a2 : List In, a2.length ≤ 150 → a2.all inOk = true → (rsF r (i + 1) a2).1.length ≤ 150 ∧ (rsF r (i + 1) a2).1.all inOk = true ∧ 0 ≤ (rsF r (i + 1) a2).2 ∧ (rsF r (i + 1) a2).2 ≤ (i : Int) + ((l :: r).length : Nat) := by
      intro a2 h2 k2
      obtain ⟨q1, q2, q3, q4⟩ := rsF_ok r (i + 1) a2 h2 k2
      refine ⟨q1, q2, q3, ?_⟩
      simp only [List.length_cons]
      omega
    split
    · split
      · exact up acc h hk
      · split
        · rename_i h3
          refine up _ ?_ ?_
          · rw [List.length_append, List.length_replicate]
            have := h3.2
            omega
          · have h4 := h3.1
            unfold lineOk at h4
            rw [Bool.and_eq_true] at h4
            rw [List.all_append, hk, Bool.true_and, List.all_eq_true]
            intro x hx
            rw [(List.mem_replicate.1 hx).2]
            exact h4.2
        · exact bad
    · exact bad
theorem readS_ok (t : ByteArray) : (readS t).1.length ≤ 150 ∧ (readS t).1.all inOk = true ∧ -1 ≤ (readS t).2 ∧ (readS t).2 ≤ 120 := by
  unfold readS
  split
  · rename_i h
    obtain ⟨q1, q2, q3, q4⟩ := rsF_ok (linesF t) 0 [] (by decide) rfl
    exact ⟨q1, q2, by omega, by have := h.2; omega⟩
  · exact ⟨Nat.zero_le _, rfl, Int.le_refl _, by show (-1 : Int) ≤ 120; decide⟩
section
theorem impl_out_loop (d : Device) (ts : List Tick) (hts : ts = d.2.2.2.2.2.2.2.2.2.2.2.2.2.2.2.1) (X : ByteArray) (hX : g_impl_ShowDevice d = some X) (hXs : X.size ≤ 40000000000000) (hl : ts.length ≤ 150) (hr : ∀ t ∈ ts, 0 ≤ t.1 ∧ t.1 ≤ 30) : ∀ (n j : Nat), j + n = ts.length → ∀ ws : List ByteArray, ws = wordsF (ts.take j) →
    Ev (fun k => impl_Console_L7 (fun _ => g_impl_Decimal) (fun _ => g_impl_ReadScript) (fun _ => g_impl_RunDevice) (fun _ => g_impl_ShowDevice) (fun _ => g_strings_Join) k ((ts.length : Int), (j : Int), d.1, d.2.1, d.2.2.1, d.2.2.2.1, d.2.2.2.2.1, d.2.2.2.2.2.1, d.2.2.2.2.2.2.1, d.2.2.2.2.2.2.2.1, d.2.2.2.2.2.2.2.2.2.1, d.2.2.2.2.2.2.2.2.2.2.1, d.2.2.2.2.2.2.2.2.2.2.2.1, d.2.2.2.2.2.2.2.2.2.2.2.2.1, d.2.2.2.2.2.2.2.2.2.2.2.2.2.1, d.2.2.2.2.2.2.2.2.2.2.2.2.2.2.1, d.2.2.2.2.2.2.2.2.2.2.2.2.2.2.2.2, ws, ts, d.2.2.2.2.2.2.2.2.1, ())) (outF ts ++ X) := by
  have dsz : ∀ t ∈ ts, (decB t.1.toNat).size ≤ 40 := by
    intro t ht
    have h1 := decB_size t.1.toNat
    have h2 := hr t ht
    omega
  intro n
  induction n with
  | zero =>
    intro j hj ws hw
    have ej : ts.take j = ts := List.take_of_length_le (by omega)
    rw [ej] at hw
    have hwl : ws.length = ts.length := by rw [hw]; exact List.length_map _
    have hws : ∀ x ∈ ws, x.size ≤ 40 := by
      intro x hx
      rw [hw] at hx
      obtain ⟨t, ht, rfl⟩ := List.mem_map.1 hx
      exact dsz t ht
    have hz := jl_size ws hws
    have hX' : g_impl_ShowDevice (d.1, d.2.1, d.2.2.1, d.2.2.2.1, d.2.2.2.2.1, d.2.2.2.2.2.1, d.2.2.2.2.2.2.1, d.2.2.2.2.2.2.2.1, d.2.2.2.2.2.2.2.2.1, d.2.2.2.2.2.2.2.2.2.1, d.2.2.2.2.2.2.2.2.2.2.1, d.2.2.2.2.2.2.2.2.2.2.2.1, d.2.2.2.2.2.2.2.2.2.2.2.2.1, d.2.2.2.2.2.2.2.2.2.2.2.2.2.1, d.2.2.2.2.2.2.2.2.2.2.2.2.2.2.1, ts, d.2.2.2.2.2.2.2.2.2.2.2.2.2.2.2.2) = some X := by
      rw [hts]; exact hX
    have eJ : g_strings_Join (ws, (⟨#[32]⟩ : ByteArray)) = some (jl ws) := by
      show joinF ws (⟨#[32]⟩ : ByteArray) = _
      unfold joinF
      have hb : (Go.Lib.join (ws.map (·.data.toList)) (⟨#[32]⟩ : ByteArray).data.toList).length = (jl ws).size := by
        unfold jl
        rw [size_ofL]
        rfl
      rw [if_pos ⟨by omega, by omega⟩]
      rfl
    have y1 : (⟨#[10]⟩ : ByteArray).size = 1 := rfl
    refine Ev.step (fun q => by rw [impl_Console_L7]) ?_
    refine ev_neg (by omega) (ev_bind eJ ?_)
    unfold outF
    by_cases h0 : ts = []
    · rw [if_pos h0]
      have e0' : ws = [] := by rw [hw, h0]; rfl
      rw [e0', jl_nil]
      refine ev_pos rfl (ev_bind hX' (ev_pos ?_ ev_some))
      have : (⟨#[]⟩ : ByteArray).size = 0 := rfl
      omega
    · rw [if_neg h0]
      have hne : ws ≠ [] := by
        intro q
        rw [q] at hwl
        exact h0 (List.length_eq_zero_iff.1 hwl.symm)
      have hjn := jl_ne hne (by
        intro x hx
        rw [hw] at hx
        obtain ⟨t, ht, rfl⟩ := List.mem_map.1 hx
        exact decB_ne _)
      rw [← hw]
      refine ev_neg hjn (ev_pos (by omega) (ev_bind hX' (ev_pos (by rw [size_append]; omega) ev_some)))
  | succ n ih =>
    intro j hj ws hw
    have hlt : j < ts.length := by omega
    have hm : ts[j] ∈ ts := List.getElem_mem hlt
    have h2 := hr ts[j] hm
    have hwl : ws.length = j := by rw [hw]; unfold wordsF; rw [List.length_map, List.length_take]; omega
    have eD : g_impl_Decimal ts[j].1 = some (decB ts[j].1.toNat) := by
      have : ts[j].1 = ((ts[j].1.toNat : Nat) : Int) := by omega
      conv => lhs; rw [this]
      exact impl_Decimal_eq _ (by omega)
    refine Ev.step (fun q => by rw [impl_Console_L7]) ?_
    rw [getD_lt hlt, w64_succ (by omega)]
    refine ev_pos (by omega) (ev_pos (by omega) (ev_pos (by omega) (ev_bind eD (ev_pos (by simp only [List.length_singleton]; omega) ?_))))
    refine ih (j + 1) (by omega) (ws ++ [decB ts[j].1.toNat]) ?_
    rw [hw]
    unfold wordsF
    rw [List.take_succ_eq_append_getElem hlt, List.map_append]
    rfl
end
theorem decI_small (f : Int) (h : -1 ≤ f ∧ f ≤ 120) : (decI f).size ≤ 130 := by
  by_cases h0 : f = -1
  · subst h0
    have : decI (-1) = (⟨#[45, 49]⟩ : ByteArray) := by
      unfold decI Go.Lib.itoa
      rw [if_pos (by decide)]
      rw [Go.Lib.decDigits, dif_pos (by decide)]
      rfl
    rw [this]
    decide
  · obtain ⟨n, rfl⟩ : ∃ n : Nat, f = (n : Int) := ⟨f.toNat, by omega⟩
    rw [decI_nat]
    have := decB_size n
    omega
theorem impl_Console_eq (t : ByteArray) (ht : t.size ≤ 1048576) : g_impl_Console t = some (consF t) := by
  refine evG_eq ?_
  unfold impl_Console_ consF
  obtain ⟨h1, h2, h3, h4⟩ := readS_ok t
  refine ev_bind (impl_ReadScript_eq t ht) (ev_dom (fun h => ?_) (fun h => ?_))
  · rw [if_pos h]
    generalize (readS t).1 = l at h1 h2
    have hR := impl_RunDevice_eq l (by omega)
    rw [runD_ok h2 h1] at hR
    have hL := life_run h2 h1
    obtain ⟨p, past, alarm, m, ts, ref, he, hd, _⟩ := hL.sound h1
    obtain ⟨_, g2, g3, g4, _, _⟩ := deviceOk_den hd
    have g5 := menu_size g3
    have g6 := (guardOk_den g2).1
    obtain ⟨s, g, ll, a, e0', r1, r2, r3, r4, r5, r6, r7, r8⟩ := showD_eq hd
    have hlen : ts.length = l.length := by have := hL.len; rw [he] at this; exact this
    have hrng : ∀ x ∈ ts, 0 ≤ x.1 ∧ x.1 ≤ 30 := by
      intro x hx
      have h5 : (dev p past alarm m ts ref).ticks = ts := rfl
      have h6 := hL.rng
      rw [he, h5] at h6
      exact h6 x.1 (List.mem_map.2 ⟨x, hx, rfl⟩)
    rw [he] at hR ⊢
    refine ev_bind hR ?_
    have eT : (dev p past alarm m ts ref).ticks = ts := rfl
    rw [eT, e0']
    have e2 := impl_DeviceOk_eq p past alarm m ts ref (by omega) (by omega)
    rw [hd] at e2
    have hX := impl_ShowDevice_ok e2 r1 r2 r3 r4 r5 r6 r7 r8
    exact impl_out_loop (dev p past alarm m ts ref) ts rfl _ hX (showX_size s g ll a r5 r6 r7 r8) (by omega) hrng ts.length 0 (by omega) [] rfl
  · rw [if_neg h]
    have hz := decI_small (readS t).2 ⟨h3, h4⟩
    have y1 : (⟨#[10]⟩ : ByteArray).size = 1 := rfl
    have y2 : (⟨#[102, 97, 117, 108, 116, 32]⟩ : ByteArray).size = 6 := rfl
    refine ev_bind (impl_Decimal_int _ ⟨by omega, by omega⟩) (ev_pos (by omega) (ev_pos (by rw [size_append]; omega) ev_some))
/- spec_l01Figure -/
theorem spec_l01Figure_eq (m : Nat) (h : m < 10) : g_spec_l01Figure (m : Int) = some ((48 + m : Nat) : Int) := by
  unfold g_spec_l01Figure spec_l01Figure_
  have c : (m : Int) < 10 := by omega
  simp only [c, if_true]
  have e1 : wrap64 (48 + (m : Int)) = ((48 + m : Nat) : Int) := by
    rw [w64 (by omega) (by omega)]; omega
  have e2 : wr .u8 ((48 + m : Nat) : Int) = ((48 + m : Nat) : Int) := by rw [wr8]; omega
  rw [e1, e2]
/- spec_Decimal -/
theorem bstr_bn (x : Nat) : bstr [(x : Int)] = bn [x] := rfl
theorem Decimal_step (m : Nat) (l : List Nat) (r : ByteArray) (h0 : 0 < m) (hm : m < 10000) (hl : l.length ≤ 100)
    (h : Ev (fun k => spec_Decimal_L5 (fun _ => g_spec_l01Figure) k (((m / 10 : Nat) : Int), false, bn ((48 + m % 10) :: l), ())) r) :
    Ev (fun k => spec_Decimal_L5 (fun _ => g_spec_l01Figure) k ((m : Int), false, bn l, ())) r := by
  refine Ev.step (fun q => by rw [spec_Decimal_L5]) ?_
  have e1 : Int.tmod (m : Int) 10 = ((m % 10 : Nat) : Int) := by
    rw [Int.tmod_eq_emod_of_nonneg (by omega)]; omega
  have e2 : Int.tdiv (m : Int) 10 = ((m / 10 : Nat) : Int) := by
    rw [Int.tdiv_eq_ediv_of_nonneg (by omega)]; omega
  have e3 : wrap64 ((m / 10 : Nat) : Int) = ((m / 10 : Nat) : Int) := w64 (by omega) (by omega)
  have e4 : bstr [((48 + m % 10 : Nat) : Int)] ++ bn l = bn ((48 + m % 10) :: l) := by rw [bstr_bn, bn_append]; rfl
  rw [e1, e2, e3]
  refine ev_neg (by omega) (ev_neg (by omega) (ev_neg (by omega) (ev_bind (spec_l01Figure_eq (m % 10) (by omega)) (ev_pos ?_ (ev_neg (by omega) ?_)))))
  · rw [size_bstr, bn_size]
    simp only [List.length_singleton]
    omega
  · rw [e4]
    exact h
theorem Decimal_end (l : List Nat) : Ev (fun k => spec_Decimal_L5 (fun _ => g_spec_l01Figure) k (((0 : Nat) : Int), false, bn l, ())) (bn l) := by
  refine Ev.step (fun q => by rw [spec_Decimal_L5]) ?_
  exact ev_pos rfl (ev_neg (by simp) ev_some)
theorem spec_Decimal_eq (n : Nat) (hn : n < 10000) : g_spec_Decimal (n : Int) = some (decT n) := by
  refine evG_eq ?_
  unfold spec_Decimal_
  by_cases h0 : n = 0
  · subst h0
    exact ev_pos rfl (ev_eq rfl)
  · have c0 : ¬ (n : Int) = 0 := by omega
    have cf : decide ((n : Int) < 0) = false := decide_eq_false (by omega)
    refine ev_neg c0 ?_
    rw [cf]
    have e0 : (⟨#[]⟩ : ByteArray) = bn [] := rfl
    rw [e0]
    unfold decT decL
    by_cases h1 : n < 10
    · rw [if_pos h1]
      have q1 : n / 10 = 0 := by omega
      have q2 : n % 10 = n := by omega
      refine Decimal_step n [] _ (by omega) hn (by simp) ?_
      rw [q1, q2]
      exact Decimal_end _
    · rw [if_neg h1]
      refine Decimal_step n [] _ (by omega) hn (by simp) ?_
      by_cases h2 : n < 100
      · rw [if_pos h2]
        refine Decimal_step (n / 10) _ _ (by omega) (by omega) (by simp) ?_
        have q1 : n / 10 / 10 = 0 := by omega
        have q2 : n / 10 % 10 = n / 10 := by omega
        rw [q1, q2]
        exact Decimal_end _
      · rw [if_neg h2]
        refine Decimal_step (n / 10) _ _ (by omega) (by omega) (by simp) ?_
        by_cases h3 : n < 1000
        · rw [if_pos h3]
          refine Decimal_step (n / 10 / 10) _ _ (by omega) (by omega) (by simp) ?_
          have q1 : n / 10 / 10 / 10 = 0 := by omega
          have q2 : n / 10 / 10 % 10 = n / 100 := by omega
          rw [q1, q2]
          exact Decimal_end _
        · rw [if_neg h3]
          refine Decimal_step (n / 10 / 10) _ _ (by omega) (by omega) (by simp) ?_
          refine Decimal_step (n / 10 / 10 / 10) _ _ (by omega) (by omega) (by simp) ?_
          have q1 : n / 10 / 10 / 10 / 10 = 0 := by omega
          have q2 : n / 10 / 10 / 10 % 10 = n / 1000 := by omega
          have q3 : n / 10 / 10 % 10 = n / 100 % 10 := by omega
          rw [q1, q2, q3]
          exact Decimal_end _
theorem Decimal_loop : ∀ (n : Nat), 0 < n → n ≤ 10000000000000 → ∀ acc : ByteArray, acc.size + n ≤ 100000000000000 → Ev (fun k => spec_Decimal_L5 (fun _ => g_spec_l01Figure) k ((n : Int), false, acc, ())) (decB n ++ acc) := by
  intro n
  induction n using Nat.strongRecOn with
  | ind n ih =>
    intro h0 hn acc ha
    have e1 : Int.tmod (n : Int) 10 = ((n % 10 : Nat) : Int) := by
      rw [Int.tmod_eq_emod_of_nonneg (by omega)]; omega
    have e2 : Int.tdiv (n : Int) 10 = ((n / 10 : Nat) : Int) := by
      rw [Int.tdiv_eq_ediv_of_nonneg (by omega)]; omega
    have e3 : wrap64 ((n / 10 : Nat) : Int) = ((n / 10 : Nat) : Int) := w64 (by omega) (by omega)
    have hz : (bstr [((48 + n % 10 : Nat) : Int)]).size = 1 := by rw [size_bstr]; rfl
    refine Ev.step (fun q => by rw [spec_Decimal_L5]) ?_
    rw [e1, e2, e3]
    refine ev_neg (by omega) (ev_neg (by omega) (ev_neg (by omega) (ev_bind (spec_l01Figure_eq (n % 10) (by omega)) (ev_pos (by omega) (ev_neg (by omega) ?_)))))
    by_cases h1 : n < 10
    · have q1 : n / 10 = 0 := by omega
      rw [q1, decB_lt h1]
      refine Ev.step (fun q => by rw [spec_Decimal_L5]) ?_
      exact ev_pos rfl (ev_neg (by simp) ev_some)
    · rw [decB_ge h1]
      exact ih (n / 10) (by omega) (by omega) (by omega) _ (by rw [size_append, hz]; omega)
theorem spec_Decimal_big (n : Nat) (hn : n ≤ 10000000000000) : g_spec_Decimal (n : Int) = some (decB n) := by
  refine evG_eq ?_
  unfold spec_Decimal_
  by_cases h0 : n = 0
  · subst h0
    refine ev_pos rfl (ev_eq ?_)
    unfold decB
    rw [Go.Lib.decDigits, dif_pos (by decide)]
    rfl
  · have cf : decide ((n : Int) < 0) = false := decide_eq_false (by omega)
    refine ev_neg (by omega) ?_
    rw [cf]
    have h := Decimal_loop n (by omega) hn ⟨#[]⟩ (by show 0 + n ≤ _; omega)
    have e : decB n ++ (⟨#[]⟩ : ByteArray) = decB n := by
      apply ba_ext
      rw [bl_append, bl_empty, List.append_nil]
    rw [e] at h
    exact h
/- spec_l01Byte -/
theorem and255 (x : Int) : 0 ≤ iand .i64 x 255 ∧ iand .i64 x 255 ≤ 255 := by
  have e : iand .i64 x 255 = IntKind.i64.wrap (((BitVec.ofInt 64 x &&& BitVec.ofInt 64 255).toNat : Nat) : Int) := rfl
  have h : (BitVec.ofInt 64 x &&& BitVec.ofInt 64 255).toNat ≤ 255 := by
    rw [BitVec.toNat_and]
    exact Nat.le_trans Nat.and_le_right (by decide)
  rw [e, IntKind.wrap_i64]
  omega
theorem l01Byte_some (l : List Int) (i s : Int) (hl : l.length ≤ 1048576) (hi : 0 ≤ i) : ∃ b i' s', g_spec_l01Byte (l, i, s) = some (b, ((), i', s')) ∧ 0 ≤ b ∧ b ≤ 255 ∧ 0 ≤ i' := by
  unfold g_spec_l01Byte spec_l01Byte_
  simp only []
  rw [if_pos (by omega), if_pos (by omega)]
  by_cases h : i < (l.length : Int)
  · rw [if_pos h, if_pos hi, if_pos h, w64 (n := i + 1) (by omega) (by omega)]
    exact ⟨_, _, _, rfl, (and255 _).1, (and255 _).2, by omega⟩
  · rw [if_neg h]
    exact ⟨_, _, _, rfl, (and255 _).1, (and255 _).2, hi⟩
/- spec_l01Below -/
theorem l01Below_some (l : List Int) (i s n : Int) (hl : l.length ≤ 1048576) (hi : 0 ≤ i) (hn : 0 < n) : ∃ v i' s', g_spec_l01Below ((l, i, s), n) = some (v, ((), i', s')) ∧ 0 ≤ v ∧ v < n ∧ 0 ≤ i' := by
  unfold g_spec_l01Below spec_l01Below_
  simp only []
  rw [if_neg (by omega)]
  by_cases h : n ≤ 256
  · rw [if_pos h]
    obtain ⟨b, i1, s1, e, h1, h2, h3⟩ := l01Byte_some l i s hl hi
    rw [e, Option.bind_some, if_neg (by omega)]
    exact ⟨_, _, _, rfl, Int.tmod_nonneg _ h1, Int.tmod_lt_of_pos _ hn, h3⟩
  · rw [if_neg h]
    obtain ⟨b1, i1, s1, e1, h11, h12, h13⟩ := l01Byte_some l i s hl hi
    obtain ⟨b2, i2, s2, e2, h21, h22, h23⟩ := l01Byte_some l i1 s1 hl h13
    obtain ⟨b3, i3, s3, e3, h31, h32, h33⟩ := l01Byte_some l i2 s2 hl h23
    obtain ⟨b4, i4, s4, e4, h41, h42, h43⟩ := l01Byte_some l i3 s3 hl h33
    simp only [e1, e2, e3, e4, Option.bind_some]
    rw [if_neg (by omega)]
    refine ⟨_, _, _, rfl, Int.tmod_nonneg _ ?_, Int.tmod_lt_of_pos _ hn, h43⟩
    show 0 ≤ wrap64 ((wrap64 ((wrap64 ((wrap64 (b1 * 16777216)) + (wrap64 (b2 * 65536)))) + (wrap64 (b3 * 256)))) + b4)
    unfold wrap64; omega
/- spec_l01New -/
theorem l01New_ev (l : List Int) (hl : l.length ≤ 1048576) : ∃ x, g_spec_l01New l = some ((), 0, x) := by
  have key : ∀ (d : Nat) (i : Nat), l.length = i + d → ∀ x, ∃ y, Ev (fun k => spec_l01New_L3 k (x, (i : Int), l, ())) ((), (0 : Int), y) := by
    intro d
    induction d with
    | zero =>
      intro i hi x
      exact ⟨x, Ev.step (fun q => by rw [spec_l01New_L3]) (ev_neg (by omega) ev_some)⟩
    | succ d ih =>
      intro i hi x
      by_cases h4 : (i : Int) < 4000
      · obtain ⟨y, hy⟩ := ih (i + 1) (by omega) _
        refine ⟨y, Ev.step (fun q => by rw [spec_l01New_L3]) (ev_pos (by omega) (ev_pos h4 (ev_pos (by omega) (ev_pos (by omega) ?_))))⟩
        rw [w64_succ (by omega)]
        exact hy
      · exact ⟨x, Ev.step (fun q => by rw [spec_l01New_L3]) (ev_pos (by omega) (ev_neg h4 ev_some))⟩
  obtain ⟨y, hy⟩ := key l.length 0 (by omega) _
  exact ⟨y, evG_eq hy⟩
/- spec_DrawPlaces -/
theorem spec_DrawPlaces_some (code : List Int) (hl : code.length ≤ 1048576) : ∃ q, g_spec_DrawPlaces code = some q ∧ q.length = 12 ∧ ∀ x ∈ q, 0 ≤ x ∧ x < 10000 := by
  have key : ∀ (d n : Nat), n + d = 12 → ∀ (i h : Int) (q : List Int), 0 ≤ i → q.length = n → (∀ x ∈ q, 0 ≤ x ∧ x < 10000) →
      ∃ q', Ev (fun k => spec_DrawPlaces_L5 (fun _ => g_spec_l01Below) (fun _ => g_spec_l01Byte) (fun _ => g_spec_l01New) k ((n : Int), code, i, h, q, ())) q' ∧ q'.length = 12 ∧ ∀ x ∈ q', 0 ≤ x ∧ x < 10000 := by
    intro d
    induction d with
    | zero =>
      intro n hn i h q hi hq hx
      exact ⟨q, Ev.step (fun q => by rw [spec_DrawPlaces_L5]) (ev_neg (by omega) ev_some), by omega, hx⟩
    | succ d ih =>
      intro n hn i h q hi hq hx
      obtain ⟨v, i', s', e, h1, h2, h3⟩ := l01Below_some code i h 10000 hl hi (by omega)
      obtain ⟨q', h4, h5⟩ := ih (n + 1) (by omega) i' s' (q ++ [v]) h3 (by simp [hq]) (fun x hx' => by
        rcases List.mem_append.1 hx' with hx' | hx'
        · exact hx x hx'
        · simp at hx'; subst hx'; exact ⟨h1, h2⟩)
      refine ⟨q', Ev.step (fun q => by rw [spec_DrawPlaces_L5]) (ev_pos (by omega) (ev_bind e (ev_pos ?_ ?_))), h5⟩
      · simp only [List.length_singleton, hq]; omega
      · rw [w64_succ (by omega)]
        exact h4
  obtain ⟨x, hn⟩ := l01New_ev code hl
  obtain ⟨b, i', s', e, _, _, h3⟩ := l01Byte_some code 0 x hl (by omega)
  obtain ⟨q, h4, h5⟩ := key 12 0 rfl i' s' [] h3 rfl (fun x hx => by cases hx)
  refine ⟨q, evG_eq ?_, h5⟩
  unfold spec_DrawPlaces_
  exact ev_bind hn (ev_bind e h4)
/- laws_big -/
theorem laws_big_eq (l : List Int) : g_laws_big l = some (decide (1048576 < (l.length : Int))) := rfl
/- laws_FnMany -/
-- needs: impl_Console impl_ReadScript spec_Decimal spec_DrawPlaces laws_big
theorem linesP_nl : ∀ (l p r : List UInt8), linesP p (l ++ 10 :: r) = linesP p (l ++ [10]) ++ linesP [] r
  | [], p, r => by
    rw [List.nil_append, List.nil_append, linesP, if_pos rfl, linesP, if_pos rfl, linesP, if_pos rfl]
    rfl
  | b :: l, p, r => by
    rw [List.cons_append, List.cons_append, linesP, linesP]
    by_cases h : b = 10
    · rw [if_pos h, if_pos h, linesP_nl l [] r]; rfl
    · rw [if_neg h, if_neg h, linesP_nl l _ r]
/-- It ends with a line's end. -/
def Ends (a : ByteArray) : Prop := ∃ l, bl a = l ++ [10]
theorem linesF_app {a : ByteArray} (h : Ends a) (r : ByteArray) : linesF (a ++ r) = linesF a ++ linesF r := by
  obtain ⟨l, hl⟩ := h
  rw [linesF_P, linesF_P, linesF_P, bl_append, hl, List.append_assoc, List.singleton_append, linesP_nl, List.map_append]
theorem ends_app {b : ByteArray} (a : ByteArray) (h : Ends b) : Ends (a ++ b) := by
  obtain ⟨l, hl⟩ := h
  exact ⟨bl a ++ l, by rw [bl_append, hl, List.append_assoc]⟩
theorem linesP_line : ∀ (l p : List UInt8), 10 ∉ l → linesP p (l ++ [10]) = [p ++ l]
  | [], p, _ => by
    rw [List.nil_append, linesP, if_pos rfl, linesP, if_pos rfl]
    simp
  | b :: l, p, h => by
    have hb : ¬ b = 10 := fun q => h (by rw [q]; exact List.mem_cons_self)
    rw [List.cons_append, linesP, if_neg hb, linesP_line l _ (fun q => h (List.mem_cons_of_mem _ q))]
    simp
theorem cutL_none {c : UInt8} : ∀ {l : List UInt8}, c ∉ l → cutL c l = [l]
  | [], _ => rfl
  | b :: l, h => by
    have hb : ¬ b = c := fun q => h (by rw [q]; exact List.mem_cons_self)
    unfold cutL
    rw [if_neg hb, cutL_none (fun q => h (List.mem_cons_of_mem _ q))]
theorem cutL_app {c : UInt8} : ∀ {a : List UInt8} (r : List UInt8), c ∉ a → cutL c (a ++ c :: r) = a :: cutL c r
  | [], r, _ => by rw [List.nil_append, cutL, if_pos rfl]
  | b :: a, r, h => by
    have hb : ¬ b = c := fun q => h (by rw [q]; exact List.mem_cons_self)
    rw [List.cons_append, cutL, if_neg hb, cutL_app r (fun q => h (List.mem_cons_of_mem _ q))]
abbrev tHead : ByteArray := ⟨#[107, 101, 121, 115, 32, 98, 50, 46, 49, 46, 54, 48, 46, 10]⟩
abbrev tHead' : ByteArray := ⟨#[107, 101, 121, 115, 32, 98, 50, 46, 49, 46, 54, 48, 46]⟩
abbrev tTickN : ByteArray := ⟨#[116, 105, 99, 107, 10]⟩
abbrev tWhat : ByteArray := ⟨#[119, 104, 97, 116]⟩
def keysIn : In := (0, ⟨#[98, 50, 10, 49, 10, 54, 48, 10]⟩, e0)
theorem parts_head : partsF tHead' = ([tKeys, ⟨#[98, 50, 46, 49, 46, 54, 48, 46]⟩], true) := by decide +kernel
theorem line_head : lineF [tKeys, ⟨#[98, 50, 46, 49, 46, 54, 48, 46]⟩] = (keysIn, 1) := by decide +kernel
theorem parts_tick : partsF tTick = ([tTick], true) := by decide +kernel
theorem lines_head : linesF tHead = [tHead'] := by decide +kernel
theorem lines_tick : linesF tTickN = [tTick] := by decide +kernel
theorem lines_what : linesF tWhat = [tWhat] := by decide +kernel
theorem parts_what : partsF tWhat = ([tWhat], true) := by decide +kernel
theorem rsF_go {l : ByteArray} {r : List ByteArray} {i : Nat} {acc : List In} {p : List ByteArray} {x : In} {n : Nat} (hp : partsF l = (p, true)) (hs : skipL p = false) (hl : lineF p = (x, (n : Int))) (hn : n ≠ 0) (hx : inOk x = true) (ha : acc.length + n ≤ 150) :
    rsF (l :: r) i acc = rsF r (i + 1) (acc ++ List.replicate n x) := by
  rw [rsF, hp]
  have hok : lineOk p = true := by
    unfold lineOk
    rw [hl, hx, Bool.and_true]
    exact decide_eq_true (by show (n : Int) ≠ 0; omega)
  have hs' : ¬ skipL p = true := by rw [hs]; exact Bool.false_ne_true
  rw [if_pos rfl, if_neg hs', if_pos ⟨hok, by rw [hl]; show (acc.length : Int) + (n : Int) ≤ 150; omega⟩, hl]
  rfl
theorem rs_head (r : List ByteArray) : rsF (tHead' :: r) 0 [] = rsF r 1 [keysIn] :=
  rsF_go (n := 1) parts_head (by decide) line_head (by decide) (by decide) (by decide)
theorem rs_ticks : ∀ (n i : Nat) (acc : List In), acc.length + n ≤ 150 → rsF (List.replicate n tTick) i acc = (acc ++ List.replicate n (0, e0, e0), 0)
  | 0, i, acc, _ => by rw [List.replicate_zero, rsF, List.replicate_zero, List.append_nil]
  | n + 1, i, acc, h => by
    rw [List.replicate_succ, rsF_go (n := 1) (x := (0, e0, e0)) parts_tick (by decide) (by decide) (by decide) (by decide) (by omega)]
    rw [rs_ticks n (i + 1) _ (by simp only [List.length_append, List.length_replicate]; omega), List.append_assoc]
    rfl
def ticksT : Nat → ByteArray
  | 0 => tHead
  | j + 1 => ticksT j ++ tTickN
theorem ticksT_ends : ∀ j, Ends (ticksT j)
  | 0 => ⟨bl tHead', rfl⟩
  | j + 1 => ends_app _ ⟨bl tTick, rfl⟩
theorem ticksT_size : ∀ j, (ticksT j).size = 14 + 5 * j
  | 0 => rfl
  | j + 1 => by
    show (ticksT j ++ tTickN).size = _
    rw [size_append, ticksT_size j]
    have : tTickN.size = 5 := rfl
    omega
theorem ticksT_lines : ∀ j, linesF (ticksT j) = tHead' :: List.replicate j tTick
  | 0 => lines_head
  | j + 1 => by
    show linesF (ticksT j ++ tTickN) = _
    rw [linesF_app (ticksT_ends j), ticksT_lines j, lines_tick, List.cons_append, List.replicate_succ']
theorem readS_ticks (n : Nat) (hn : n ≤ 50) : readS (ticksT n) = ([keysIn] ++ List.replicate n (0, e0, e0), 0) := by
  unfold readS
  rw [ticksT_lines, ticksT_size]
  rw [if_pos ⟨by omega, by simp only [List.length_cons, List.length_replicate]; omega⟩, rs_head]
  exact rs_ticks n 1 [keysIn] (by simp only [List.length_singleton]; omega)
abbrev tManyB : ByteArray := ⟨#[109, 97, 110, 121, 32]⟩
theorem decB_no (n : Nat) (c : UInt8) (hc : ¬ dig c) : c ∉ bl (decB n) := by
  rw [bl_decB]
  intro h
  exact hc (dec_dig n c h)
theorem parts_many (n : Nat) : n ≤ 50 → partsF (tManyB ++ decB n) = ([tMany, decB n], true) := by
  intro hn
  have hc : cutL 32 (bl (tManyB ++ decB n)) = [bl tMany, bl (decB n)] := by
    have e : bl (tManyB ++ decB n) = bl tMany ++ 32 :: bl (decB n) := by rw [bl_append]; rfl
    rw [e, cutL_app _ (by decide), cutL_none (decB_no n 32 (by decide))]
  have hne : bl (decB n) ≠ [] := by rw [bl_decB]; exact dec_ne n
  have hk : keepL [bl tMany, bl (decB n)] = [bl tMany, bl (decB n)] := by
    unfold keepL
    have h1 : (bl (decB n)).isEmpty = false := by
      cases h : bl (decB n) with
      | nil => exact absurd h hne
      | cons _ _ => rfl
    rw [List.filter_cons, if_pos (by rfl), List.filter_cons, if_pos (by rw [h1]; rfl), List.filter_nil]
  have hz := decB_size n
  have z : tManyB.size = 5 := rfl
  have hok : okLine (tManyB ++ decB n) = true := by
    unfold okLine
    rw [decide_eq_true (by rw [size_append]; omega), Bool.true_and, bl_append, List.all_append]
    have h1 : (bl tManyB).all okB = true := by decide
    rw [h1, Bool.true_and, List.all_eq_true]
    intro c hcm
    rw [bl_decB] at hcm
    have := dec_dig n c hcm
    unfold dig at this
    exact decide_eq_true (by omega)
  unfold partsF
  rw [hok, hc, hk, if_pos ⟨rfl, by show 2 ≤ 10; decide⟩, List.map_cons, List.map_cons, ofL_bl, ofL_bl]
  rfl
theorem line_many (n : Nat) (h1 : 1 ≤ n) (hn : n ≤ 50) : lineF [tMany, decB n] = ((0, e0, e0), (n : Int)) := by
  show line2 tMany (decB n) = _
  unfold line2
  rw [if_neg (by decide), if_neg (by decide), if_neg (by decide), if_pos rfl, decR_dec (by omega), if_pos ⟨rfl, by show (1 : Int) ≤ (n : Int); omega, by show (n : Int) ≤ 50; omega⟩]
theorem readS_many (n : Nat) (h1 : 1 ≤ n) (hn : n ≤ 50) : readS (((tHead ++ tManyB) ++ decB n) ++ (⟨#[10]⟩ : ByteArray)) = ([keysIn] ++ List.replicate n (0, e0, e0), 0) := by
  have hz := decB_size n
  have z1 : tManyB.size = 5 := rfl
  have z2 : tHead.size = 14 := rfl
  have z3 : (⟨#[10]⟩ : ByteArray).size = 1 := rfl
  have e : ((tHead ++ tManyB) ++ decB n) ++ (⟨#[10]⟩ : ByteArray) = tHead ++ ((tManyB ++ decB n) ++ (⟨#[10]⟩ : ByteArray)) := by
    apply ba_ext
    simp only [bl_append, List.append_assoc]
  have hl : linesF ((tManyB ++ decB n) ++ (⟨#[10]⟩ : ByteArray)) = [tManyB ++ decB n] := by
    rw [linesF_P, bl_append]
    have h10 : (10 : UInt8) ∉ bl (tManyB ++ decB n) := by
      rw [bl_append]
      intro h
      rcases List.mem_append.1 h with h | h
      · revert h; decide
      · exact decB_no n 10 (by decide) h
    have : bl (⟨#[10]⟩ : ByteArray) = [10] := rfl
    rw [this, linesP_line _ _ h10, List.nil_append, List.map_singleton, ofL_bl]
  have hL : linesF (tHead ++ ((tManyB ++ decB n) ++ (⟨#[10]⟩ : ByteArray))) = [tHead', tManyB ++ decB n] := by
    rw [linesF_app ⟨bl tHead', rfl⟩, lines_head, hl]
    rfl
  unfold readS
  rw [e, hL, if_pos ⟨by simp only [size_append]; omega, by show 2 ≤ 120; decide⟩, rs_head]
  have hs : skipL [tMany, decB n] = false := by show decide (byt tMany 0 = 35) = false; decide
  rw [rsF_go (n := n) (parts_many n hn) hs (line_many n h1 hn) (by omega) (by decide) (by simp only [List.length_singleton]; omega), rsF]
theorem readS_what : readS tWhat = ([], 1) := by
  have h1 : lineOk [tWhat] = false := by decide
  unfold readS
  rw [lines_what, if_pos (by decide), rsF, parts_what, if_pos rfl, if_neg (by decide), if_neg (fun q => by rw [h1] at q; exact Bool.false_ne_true q.1)]
  rfl
theorem cons_what : consF tWhat = (⟨#[102, 97, 117, 108, 116, 32, 49, 10]⟩ : ByteArray) := by
  unfold consF
  rw [readS_what, if_neg (by decide)]
  unfold faultT
  have : decI 1 = (⟨#[49]⟩ : ByteArray) := by
    have h := decI_nat 1
    have h2 : decI ((1 : Nat) : Int) = decI 1 := rfl
    rw [← h2, h]
    unfold decB
    rw [Go.Lib.decDigits, dif_pos (by decide)]
    rfl
  rw [this]
  decide
set_option maxHeartbeats 1000000 in
theorem t_FnMany (S : List Int) : g_laws_FnMany S = some true := by
  refine evG_eq ?_
  unfold laws_FnMany_
  refine ev_bind (laws_big_eq S) (ev_dom (fun _ => ev_some) (fun hb => ?_))
  have hS : S.length ≤ 1048576 := by
    rw [decide_eq_true_eq] at hb; omega
  obtain ⟨q, hq, h12, hx⟩ := spec_DrawPlaces_some S hS
  refine ev_bind hq ?_
  have h0 : 0 ≤ q.getD (Int.toNat 0) 0 := by
    have : q.getD (Int.toNat 0) 0 = q[0]'(by omega) := getD_lt (i := 0) (by omega)
    rw [this]; exact (hx _ (List.getElem_mem _)).1
  generalize q.getD (Int.toNat 0) 0 = y at h0
  have h1 := Int.tmod_nonneg (50 : Int) h0
  have h2 := Int.tmod_lt_of_pos y (b := (50 : Int)) (by omega)
  generalize Int.tmod y 50 = z at h1 h2
  have hw : wrap64 (1 + z) = ((1 + z.toNat : Nat) : Int) := by rw [w64 (by omega) (by omega)]; omega
  rw [hw]
  obtain ⟨n, hn⟩ : ∃ n : Nat, n = 1 + z.toNat := ⟨_, rfl⟩
  rw [← hn]
  have n1 : 1 ≤ n := by omega
  have n2 : n ≤ 50 := by omega
  clear hw hn h1 h2
  have zd := decB_size n
  have z1 : (⟨#[109, 97, 110, 121, 32]⟩ : ByteArray).size = 5 := rfl
  have z2 : (⟨#[107, 101, 121, 115, 32, 98, 50, 46, 49, 46, 54, 48, 46, 10]⟩ : ByteArray).size = 14 := rfl
  have z3 : (⟨#[10]⟩ : ByteArray).size = 1 := rfl
  have z4 : (⟨#[116, 105, 99, 107, 10]⟩ : ByteArray).size = 5 := rfl
  have eA : g_impl_Console (((tHead ++ tManyB) ++ decB n) ++ (⟨#[10]⟩ : ByteArray)) = some (consF (ticksT n)) := by
    have y1 : tManyB.size = 5 := rfl
    have y2 : tHead.size = 14 := rfl
    rw [impl_Console_eq _ (by simp only [size_append]; omega)]
    congr 1
    unfold consF
    rw [readS_many n n1 n2, readS_ticks n n2]
  refine ev_pos (by decide) (ev_pos (by omega) (ev_neg (by decide) (ev_pos (by omega) (ev_bind (spec_Decimal_big n (by omega)) (ev_pos (by simp only [size_append]; omega) (ev_pos (by simp only [size_append]; omega) (ev_bind eA ?_)))))))
  have key : ∀ (d j : Nat), j + d = n → Ev (fun k => laws_FnMany_L8 (fun _ => g_impl_Console) (fun _ => g_impl_ReadScript) (fun _ => g_laws_big) (fun _ => g_spec_Decimal) (fun _ => g_spec_DrawPlaces) k ((n : Int), consF (ticksT n), ticksT j, (j : Int), ())) true := by
    intro d
    induction d with
    | zero =>
      intro j hj
      have e : j = n := by omega
      subst e
      have hz := ticksT_size j
      refine Ev.step (fun w => by rw [laws_FnMany_L8]) ?_
      refine ev_neg (by omega) (ev_bind (impl_ReadScript_eq _ (by omega)) (ev_bind (impl_Console_eq _ (by omega)) (ev_pos rfl ?_)))
      rw [readS_ticks j n2]
      refine ev_pos rfl (ev_pos ?_ (ev_bind (impl_Console_eq tWhat (by decide)) (ev_eq ?_)))
      · rw [w64 (by omega) (by omega)]
        simp only [List.length_append, List.length_singleton, List.length_replicate]
        omega
      · rw [cons_what]
        decide
    | succ d ih =>
      intro j hj
      have hz := ticksT_size j
      refine Ev.step (fun w => by rw [laws_FnMany_L8]) ?_
      rw [w64_succ (i := j) (by omega)]
      exact ev_pos (by omega) (ev_pos (by omega) (ih (j + 1) (by omega)))
  exact key n 0 (by omega)
/- spec_l01In -/
theorem spec_l01In_eq (a b c : Int) : g_spec_l01In (a, b, c) = some (decide (b ≤ a ∧ a ≤ c)) := by
  show (if b ≤ a then some (decide (a ≤ c)) else some false) = _
  split
  · rename_i h; refine eq_dec ?_; rw [decide_eq_true_iff]; omega
  · rename_i h; exact dec_no (by omega)
/- spec_SenseOk -/
theorem spec_SenseOk_eq (a : Int) : g_spec_SenseOk a = some (senseOk a) := by
  unfold g_spec_SenseOk spec_SenseOk_
  simp only [spec_l01In_eq, Option.bind_some]; rfl
/- spec_Has -/
def hs (a m : Int) : Bool := decide ((Int.tmod (wrap64 (Int.tdiv a m)) 2) = 1)
theorem has15 : ∀ a b : _root_.Fin 16, ∀ m ∈ [(1 : Int), 2, 4, 8], hs (ior .i64 (a.val : Int) (b.val : Int)) m = (hs (a.val : Int) m || hs (b.val : Int) m) := by decide +kernel
theorem Has_or {a b m : Int} (ha : senseOk a = true) (hb : senseOk b = true) (hm : m ∈ [(1 : Int), 2, 4, 8]) : hs (ior .i64 a b) m = (hs a m || hs b m) := by
  unfold senseOk at ha hb
  have ha := of_decide_eq_true ha
  have hb := of_decide_eq_true hb
  have h := has15 ⟨a.toNat, by omega⟩ ⟨b.toNat, by omega⟩ m hm
  simp only [Int.toNat_of_nonneg ha.1, Int.toNat_of_nonneg hb.1] at h
  exact h
theorem spec_Has_eq {a m : Int} (ha : senseOk a = true) (hm : m ∈ [(1 : Int), 2, 4, 8]) : g_spec_Has (a, m) = some (hs a m) := by
  unfold g_spec_Has spec_Has_
  simp only [spec_SenseOk_eq, Option.bind_some, ha, if_true]
  simp at hm
  rcases hm with rfl | rfl | rfl | rfl <;> rfl
/- spec_SenseNames -/
-- needs: impl_SenseNames spec_Has
def bitsL : List Int := [1, 2, 4, 8]
def specF : List Bool → List ByteArray → ByteArray → ByteArray
  | true :: r, x :: l, acc => specF r l (if acc = (⟨#[]⟩ : ByteArray) then acc ++ x else (acc ++ (⟨#[44]⟩ : ByteArray)) ++ x)
  | false :: r, _ :: l, acc => specF r l acc
  | _, _, acc => if acc = (⟨#[]⟩ : ByteArray) then (⟨#[110, 111, 110, 101]⟩ : ByteArray) else acc
theorem has_bit : ∀ (a : _root_.Fin 16) (i : _root_.Fin 4), hs (a.val : Int) (bitsL.getD i.val 0) = (bitL a.val).getD i.val false := by decide +kernel
theorem name_size : ∀ x ∈ nameL, x.size ≤ 5 := by decide
theorem bits_mem : ∀ i : _root_.Fin 4, bitsL.getD i.val 0 ∈ [(1 : Int), 2, 4, 8] := by decide
theorem spec_SenseNames_loop (a : Nat) (ha : a < 16) : ∀ (d i : Nat), i + d = 4 → ∀ acc : ByteArray, acc.size ≤ 6 * i →
    Ev (fun k => spec_SenseNames_L7 (fun _ => g_spec_Has) (fun _ => g_spec_SenseOk) k ((a : Int), acc, (i : Int), nameL, bitsL, ())) (specF ((bitL a).drop i) (nameL.drop i) acc) := by
  have hok : senseOk (a : Int) = true := by unfold senseOk; exact decide_eq_true (by omega)
  intro d
  induction d with
  | zero =>
    intro i hi acc hacc
    have : i = 4 := by omega
    subst this
    have e : specF ((bitL a).drop 4) (nameL.drop 4) acc = if acc = (⟨#[]⟩ : ByteArray) then (⟨#[110, 111, 110, 101]⟩ : ByteArray) else acc := by simp [bitL, nameL, specF]
    rw [e]
    refine Ev.step (fun q => by rw [spec_SenseNames_L7]) ?_
    refine ev_neg (by decide) (ev_dom (fun h => ?_) (fun h => ?_))
    · rw [if_pos h]; exact ev_some
    · rw [if_neg h]; exact ev_some
  | succ d ih =>
    intro i hi acc hacc
    have hi4 : i < 4 := by omega
    have hn : (nameL.length) = 4 := rfl
    have hbn : (bitsL.length) = 4 := rfl
    have key := has_bit ⟨a, ha⟩ ⟨i, hi4⟩
    have hm := bits_mem ⟨i, hi4⟩
    have hbl : i < (bitL a).length := by simp [bitL]; omega
    have hnl : i < nameL.length := by rw [hn]; exact hi4
    have d1 : (bitL a).drop i = (bitL a)[i] :: (bitL a).drop (i + 1) := List.drop_eq_getElem_cons hbl
    have d2 : nameL.drop i = nameL[i] :: nameL.drop (i + 1) := List.drop_eq_getElem_cons hnl
    have hg : nameL.getD (i : Int).toNat (⟨#[]⟩ : ByteArray) = nameL[i] := getD_lt hnl
    have hb : (bitL a).getD i false = (bitL a)[i] := by rw [List.getD_eq_getElem?_getD, List.getElem?_eq_getElem hbl]; rfl
    have hz : nameL[i].size ≤ 5 := name_size _ (List.getElem_mem hnl)
    have h44 : (⟨#[44]⟩ : ByteArray).size = 1 := rfl
    have eH : g_spec_Has ((a : Int), bitsL.getD (i : Int).toNat 0) = some (hs (a : Int) (bitsL.getD i 0)) := spec_Has_eq hok hm
    rw [hb] at key
    have key : hs (a : Int) (bitsL.getD i 0) = (bitL a)[i] := key
    rw [key] at eH
    rw [d1, d2]
    refine Ev.step (fun q => by rw [spec_SenseNames_L7]) ?_
    rw [w64_succ (by omega), hg]
    refine ev_pos (by omega) (ev_pos (by omega) (ev_pos (by rw [hbn]; omega) (ev_bind eH ?_)))
    cases hbit : (bitL a)[i] with
    | true =>
      refine ev_pos rfl (ev_dom (fun h => ?_) (fun h => ?_))
      · refine ev_pos (by omega) (ev_pos (by rw [hn]; omega) (ev_pos (by omega) ?_))
        have e : specF (true :: (bitL a).drop (i + 1)) (nameL[i] :: nameL.drop (i + 1)) acc = specF ((bitL a).drop (i + 1)) (nameL.drop (i + 1)) (acc ++ nameL[i]) := by
          rw [specF, if_pos h]
        rw [e]
        exact ih (i + 1) (by omega) _ (by rw [size_append]; omega)
      · refine ev_pos (by omega) (ev_pos (by omega) (ev_pos (by rw [hn]; omega) (ev_pos (by rw [size_append]; omega) ?_)))
        have e : specF (true :: (bitL a).drop (i + 1)) (nameL[i] :: nameL.drop (i + 1)) acc = specF ((bitL a).drop (i + 1)) (nameL.drop (i + 1)) ((acc ++ (⟨#[44]⟩ : ByteArray)) ++ nameL[i]) := by
          rw [specF, if_neg h]
        rw [e]
        exact ih (i + 1) (by omega) _ (by rw [size_append, size_append]; omega)
    | false =>
      refine ev_neg Bool.false_ne_true ?_
      exact ih (i + 1) (by omega) acc (by omega)
theorem spec_join : ∀ a : _root_.Fin 16, specF (bitL a.val) nameL ⟨#[]⟩ = senseT a.val := by decide +kernel
theorem spec_SenseNames_eq (a : Nat) (ha : a < 16) : g_spec_SenseNames (a : Int) = some (senseT a) := by
  refine evG_eq ?_
  unfold spec_SenseNames_
  have hok : senseOk (a : Int) = true := by unfold senseOk; exact decide_eq_true (by omega)
  have e := spec_SenseOk_eq (a : Int)
  rw [hok] at e
  have h := spec_SenseNames_loop a ha 4 0 rfl ⟨#[]⟩ (Nat.le_refl _)
  rw [List.drop_zero, List.drop_zero, spec_join ⟨a, ha⟩] at h
  exact ev_bind e (ev_pos rfl h)
/- spec_MenuOk -/
theorem spec_MenuOk_eq (a : Int) (b : Bool) (n d : Int) (s : ByteArray) (hs : s.size ≤ 1048580) : g_spec_MenuOk (a, b, n, d, s) = some (menuOk (a, b, n, d, s)) := by
  refine evG_eq ?_
  show Ev _ (decide (MenuOkP a b n d s))
  unfold spec_MenuOk_
  have hloop : Ev (fun k => spec_MenuOk_L4 (fun _ => g_spec_l01In) k (0, a, b, n, d, s, ())) (digitsOk (bl s) && decide (a = 1 → s.size = 0 ∧ b = false ∧ n = 0 ∧ d = 0)) := by
    refine bytes_loop s (fun k (_ : Unit) i => spec_MenuOk_L4 (fun _ => g_spec_l01In) k (i, a, b, n, d, s, ())) (fun r _ => digitsOk r && decide (a = 1 → s.size = 0 ∧ b = false ∧ n = 0 ∧ d = 0)) (fun _ => ?_) (fun i _ x rest hx hi h => ?_) ()
    · refine Ev.step (fun q => by rw [spec_MenuOk_L4]) ?_
      refine ev_neg (by omega) (ev_eq ?_)
      show _ = some (digitsOk [] && _)
      rw [show digitsOk [] = true from rfl, Bool.true_and]
      simp only [eq_empty]
      cases b with
      | false =>
        repeat' refine ite_r (fun _ => ?_) (fun _ => ?_)
        all_goals first
          | exact absurd (by assumption) Bool.false_ne_true
          | exact dec_yes (fun q => by first | (exfalso; omega) | exact ⟨by omega, rfl, by omega, by omega⟩)
          | exact dec_no (fun q => by have := q (by omega); omega)
          | (refine eq_dec ?_; rw [decide_eq_true_iff]; exact ⟨fun h q => ⟨by omega, rfl, by omega, h⟩, fun q => (q (by omega)).2.2.2⟩)
      | true =>
        repeat' refine ite_r (fun _ => ?_) (fun _ => ?_)
        all_goals first
          | exact absurd rfl (by assumption)
          | exact dec_yes (fun q => by exfalso; omega)
          | exact dec_no (fun q => by have := (q (by omega)).2.1; cases this)
    · refine Ev.step (fun q => by rw [spec_MenuOk_L4]) ?_
      refine ev_pos (by omega) (ev_pos (by omega) (ev_pos (by omega) ?_))
      rw [byt_drop hx, w64_succ (by omega)]
      by_cases h1 : (x.toNat : Int) < 48
      · refine ev_pos h1 (Ev.cast ev_some ?_)
        rw [digitsOk_cons, decide_eq_false (p := 48 ≤ (x.toNat : Int) ∧ (x.toNat : Int) ≤ 57) (by omega)]; rfl
      · refine ev_neg h1 (ev_pos (by omega) (ev_pos (by omega) ?_))
        by_cases h2 : 57 < (x.toNat : Int)
        · refine ev_pos h2 (Ev.cast ev_some ?_)
          rw [digitsOk_cons, decide_eq_false (p := 48 ≤ (x.toNat : Int) ∧ (x.toNat : Int) ≤ 57) (by omega)]; rfl
        · refine ev_neg h2 (Ev.cast (h ()) ?_)
          rw [digitsOk_cons, decide_eq_true (p := 48 ≤ (x.toNat : Int) ∧ (x.toNat : Int) ≤ 57) (by omega), Bool.true_and]
  have no : ¬ ((1 ≤ a ∧ a ≤ 4) ∧ (0 ≤ n ∧ n ≤ 9999) ∧ (0 ≤ d ∧ d ≤ 9999) ∧ s.size ≤ 4) → false = decide (MenuOkP a b n d s) := fun h => by
    rw [decide_eq_false]
    unfold MenuOkP
    exact fun q => h ⟨q.2.1, q.2.2.1, q.2.2.2.1, q.2.2.2.2.1⟩
  refine ev_bind (spec_l01In_eq _ _ _) (ev_dom (fun h1 => ?_) (fun h1 => Ev.cast ev_some (no fun q => h1 (decide_eq_true q.1))))
  refine ev_bind (spec_l01In_eq _ _ _) (ev_dom (fun h2 => ?_) (fun h2 => Ev.cast ev_some (no fun q => h2 (decide_eq_true q.2.1))))
  refine ev_bind (spec_l01In_eq _ _ _) (ev_dom (fun h3 => ?_) (fun h3 => Ev.cast ev_some (no fun q => h3 (decide_eq_true q.2.2.1))))
  refine ev_dom (fun h4 => Ev.cast ev_some (no fun q => by omega)) (fun h4 => Ev.cast hloop ?_)
  rw [decide_eq_true_iff] at h1 h2 h3
  rw [Bool.eq_iff_iff]
  refine Iff.trans ?_ decide_eq_true_iff.symm
  rw [Bool.and_eq_true, decide_eq_true_iff]
  unfold MenuOkP
  constructor
  · rintro ⟨q1, q2⟩; exact ⟨q1, h1, h2, h3, by omega, q2⟩
  · rintro ⟨q1, _, _, _, _, q2⟩; exact ⟨q1, q2⟩
/- spec_l16Sum -/
theorem spec_l16Sum_eq (l : List Int) (hl : l.length ≤ 9223372036854775806) : g_spec_l16Sum l = some (wrap64 l.sum) := by
  refine evG_eq ?_
  unfold spec_l16Sum_
  refine Ev.congr (g := fun k => spec_l16Sum_L3 k (wrap64 0, ((0 : Nat) : Int), l, ())) (fun k => by rw [w64 (n := 0) (by omega) (by omega)]; rfl) ?_
  refine Ev.cast (list_loop l (fun k s i => spec_l16Sum_L3 k (wrap64 s, i, l, ())) (fun r s => wrap64 (s + r.sum)) (fun s => ?_) (fun i s x rest hx hi h => ?_) 0 (by omega) 0) (by simp)
  · refine Ev.step (fun q => by rw [spec_l16Sum_L3]) ?_
    exact ev_neg (by omega) (Ev.cast ev_some (by simp))
  · refine Ev.step (fun q => by rw [spec_l16Sum_L3]) ?_
    refine ev_pos (by omega) (ev_pos (by omega) (ev_pos (by omega) ?_))
    rw [getD_drop hx, w64_succ (by omega), wrap64_add]
    refine Ev.cast (h (s + x)) ?_
    simp [Int.add_assoc]
/- spec_GuardOk -/
theorem spec_GuardOk_eq (l : List Int) (a : Int) (hl : l.length ≤ 9223372036854775806) : g_spec_GuardOk (l, a) = some (guardOk l a) := by
  refine evG_eq ?_
  have hloop : l.length ≤ 9 → Ev (fun k => spec_GuardOk_L4 (fun _ => g_spec_SenseOk) (fun _ => g_spec_l01In) (fun _ => g_spec_l16Sum) k (0, l, a, ())) (pastOk l && decide (l.sum ≤ 30)) := by
    intro h9
    have hend : Ev (fun k => spec_GuardOk_L4 (fun _ => g_spec_SenseOk) (fun _ => g_spec_l01In) (fun _ => g_spec_l16Sum) k ((l.length : Int), l, a, ())) (decide (wrap64 l.sum ≤ 30)) := by
      refine Ev.step (fun q => by rw [spec_GuardOk_L4]) ?_
      exact ev_neg (by omega) (ev_bind (spec_l16Sum_eq l hl) ev_some)
    refine Ev.cast (list_loop l (fun k (_ : Unit) i => spec_GuardOk_L4 (fun _ => g_spec_SenseOk) (fun _ => g_spec_l01In) (fun _ => g_spec_l16Sum) k (i, l, a, ())) (fun r _ => pastOk r && decide (wrap64 l.sum ≤ 30)) (fun _ => Ev.cast hend (by simp [pastOk])) (fun i _ x rest hx hi h => ?_) 0 (by omega) ()) ?_
    · refine Ev.step (fun q => by rw [spec_GuardOk_L4]) ?_
      refine ev_pos (by omega) (ev_pos (by omega) (ev_pos (by omega) ?_))
      rw [getD_drop hx, spec_l01In_eq, w64_succ (by omega)]
      simp only [Option.bind_some, decide_eq_true_eq]
      by_cases hx2 : 0 ≤ x ∧ x ≤ 30
      · refine ev_pos hx2 (Ev.cast (h ()) ?_)
        rw [pastOk_cons]; simp [hx2]
      · refine ev_neg hx2 (Ev.cast ev_some ?_)
        rw [pastOk_cons]; simp [hx2]
    · simp only [List.drop_zero]
      cases hp : pastOk l with
      | true =>
        have hs := pastOk_sum hp
        rw [w64 (by omega) (by omega)]
      | false => rfl
  unfold spec_GuardOk_
  by_cases h9 : 9 < (l.length : Int)
  · refine ev_pos h9 (Ev.cast ev_some ?_)
    have h9' : ¬ l.length ≤ 9 := by omega
    simp [guardOk, h9']
  · refine ev_neg h9 (ev_bind (spec_SenseOk_eq a) ?_)
    have h9' : l.length ≤ 9 := by omega
    cases hs : senseOk a with
    | false => exact ev_neg Bool.false_ne_true (Ev.cast ev_some (by simp [guardOk, hs]))
    | true =>
      refine ev_pos rfl (Ev.cast (hloop h9') ?_)
      simp [guardOk, hs, h9']
/- spec_RateOk -/
theorem spec_RateOk_eq (n d r : Int) : g_spec_RateOk (n, d, r) = some (rateOk n d r) := by
  unfold g_spec_RateOk spec_RateOk_ rateOk
  simp only [spec_l01In_eq, Option.bind_some, decide_eq_true_eq]
  by_cases h1 : 0 ≤ n ∧ n ≤ 1000000
  · by_cases h2 : 1 ≤ d ∧ d ≤ 1000000
    · rw [if_pos h1, if_pos h2, w64 (by omega) (by omega)]
      refine eq_dec ?_
      rw [decide_eq_true_iff]; unfold RateOkP; omega
    · rw [if_pos h1, if_neg h2]; exact dec_no (by unfold RateOkP; omega)
  · rw [if_neg h1]; exact dec_no (by unfold RateOkP; omega)
/- spec_PumpOk -/
theorem spec_PumpOk_eq (p : Pump) : g_spec_PumpOk p = some (pumpOk p) := by
  obtain ⟨s, n, d, r, l, b, g, k⟩ := p
  show _ = some (decide (PumpOkP s n d r l b g k))
  unfold g_spec_PumpOk spec_PumpOk_
  simp only [spec_l01In_eq, spec_RateOk_eq, Option.bind_some, decide_eq_true_eq, rateOk, beq_iff_eq, Bool.true_eq, Bool.false_eq, decide_eq_false_iff_not, decide_eq_decide]
  by_cases h : RateOkP n d r
  · have hw : wrap64 (3 * d) = 3 * d := by unfold RateOkP at h; exact w64 (by omega) (by omega)
    rw [hw]
    have h0 := h
    unfold RateOkP at h
    repeat' refine ite_r (fun _ => ?_) (fun _ => ?_)
    all_goals first
      | exact absurd h0 (by assumption)
      | exact dec_no (by unfold PumpOkP RateOkP; omega)
      | exact dec_yes (by unfold PumpOkP RateOkP; omega)
      | (refine eq_dec ?_; rw [decide_eq_true_iff]; unfold PumpOkP RateOkP; omega)
  · simp only [h, if_false]
    repeat' refine ite_r (fun _ => ?_) (fun _ => ?_)
    all_goals exact dec_no (by unfold PumpOkP; exact fun q => h q.2.1)
/- spec_DeviceOk -/
theorem spec_DeviceOk_eq (p : Pump) (past : List Int) (alarm : Int) (m : Menu) (ts : List Tick) (ref : Int) (h1 : past.length ≤ 9223372036854775806) (h2 : m.2.2.2.2.size ≤ 1048580) : g_spec_DeviceOk (dev p past alarm m ts ref) = some (deviceOk p past alarm m ts ref) := by
  obtain ⟨s, n, e, r, l, b, g, k⟩ := p
  obtain ⟨a, bo, nu, de, di⟩ := m
  unfold g_spec_DeviceOk spec_DeviceOk_ dev deviceOk
  simp only [spec_PumpOk_eq, spec_GuardOk_eq past alarm h1, spec_MenuOk_eq a bo nu de di h2, spec_l01In_eq, Option.bind_some]
  cases pumpOk (s, n, e, r, l, b, g, k) with
  | false => simp
  | true =>
    cases guardOk past alarm with
    | false => simp
    | true =>
      cases menuOk (a, bo, nu, de, di) with
      | false => simp
      | true =>
        simp only [if_true, Bool.true_and]
        by_cases h : (ts.length : Int) ≤ 200
        · rw [if_pos h, decide_eq_true (show ts.length ≤ 200 by omega), Bool.true_and]
        · rw [if_neg h, decide_eq_false (show ¬ ts.length ≤ 200 by omega), Bool.false_and]
/- spec_ShowDevice -/
-- needs: impl_ShowDevice spec_SenseNames spec_Decimal spec_DeviceOk
theorem spec_ShowDevice_ok {p : Pump} {past : List Int} {alarm : Int} {m : Menu} {ts : List Tick} {ref : Int} {s g l a : Nat} (e : g_spec_DeviceOk (dev p past alarm m ts ref) = some true) (h1 : p.1 = (s : Int)) (h2 : p.2.2.2.2.2.2.1 = (g : Int)) (h3 : p.2.2.2.2.1 = (l : Int)) (h4 : alarm = (a : Int)) (b1 : s ≤ 10000000000000) (b2 : g ≤ 10000000000000) (b3 : l ≤ 10000000000000) (b4 : a < 16) :
    g_spec_ShowDevice (dev p past alarm m ts ref) = some (showX s g l a) := by
  have e1 : g_spec_Decimal p.1 = some (decB s) := by rw [h1]; exact spec_Decimal_big s b1
  have e2 : g_spec_Decimal p.2.2.2.2.2.2.1 = some (decB g) := by rw [h2]; exact spec_Decimal_big g b2
  have e3 : g_spec_Decimal p.2.2.2.2.1 = some (decB l) := by rw [h3]; exact spec_Decimal_big l b3
  have e4 : g_spec_SenseNames alarm = some (senseT a) := by rw [h4]; exact spec_SenseNames_eq a b4
  have z1 := decB_size s
  have z2 := decB_size g
  have z3 := decB_size l
  have z4 := senseT_size ⟨a, b4⟩
  have z4 : (senseT a).size ≤ 100 := z4
  have y1 : (⟨#[115, 116, 97, 116, 101, 32]⟩ : ByteArray).size = 6 := rfl
  have y2 : (⟨#[32, 103, 105, 118, 101, 110, 32]⟩ : ByteArray).size = 7 := rfl
  have y3 : (⟨#[32, 108, 101, 102, 116, 32]⟩ : ByteArray).size = 6 := rfl
  have y4 : (⟨#[32, 97, 108, 97, 114, 109, 32]⟩ : ByteArray).size = 7 := rfl
  have y5 : (⟨#[10]⟩ : ByteArray).size = 1 := rfl
  unfold showX
  clear h1 h2 h3 h4
  unfold g_spec_ShowDevice spec_ShowDevice_
  exact bind_eq e ((if_pos rfl).trans (bind_eq e1 ((if_pos (by omega)).trans ((if_pos (by simp only [size_append]; omega)).trans (bind_eq e2 ((if_pos (by simp only [size_append]; omega)).trans ((if_pos (by simp only [size_append]; omega)).trans (bind_eq e3 ((if_pos (by simp only [size_append]; omega)).trans ((if_pos (by simp only [size_append]; omega)).trans (bind_eq e4 ((if_pos (by simp only [size_append]; omega)).trans ((if_pos (by simp only [size_append]; omega)).trans rfl)))))))))))))
/- spec_l15Less -/
theorem spec_l15Less_eq (a b : Int) : g_spec_l15Less (a, b) = some (min a b) := by
  show (if a < b then some a else some b) = _
  split <;> (congr 1; omega)
/- spec_RoomOf -/
theorem spec_RoomOf_eq (l : List Int) (a : Int) (hl : l.length ≤ 9223372036854775806) : g_spec_RoomOf (l, a) = some (wrap64 (30 - l.sum)) := by
  unfold g_spec_RoomOf spec_RoomOf_
  simp only [spec_l16Sum_eq l hl, Option.bind_some, wrap64_sub']
/- spec_l16Copy -/
theorem spec_l16Copy_eq (l : List Int) (a : Int) (hl : l.length ≤ 17592186044416) : g_spec_l16Copy (l, a) = some (l, a) := by
  unfold g_spec_l16Copy spec_l16Copy_
  simp only [List.length_nil, Nat.zero_add, List.nil_append]
  rw [if_pos (by omega)]
/- spec_Pass -/
theorem spec_Pass_eq (l : List Int) (a n : Int) (hl : l.length ≤ 17592186044416) : g_spec_Pass ((l, a), n) = some (pass l a n, a) := by
  unfold g_spec_Pass spec_Pass_ pass
  simp only [spec_l16Copy_eq l a hl, spec_GuardOk_eq l a (by omega), spec_RoomOf_eq l a (by omega), spec_l15Less_eq, Option.bind_some, List.singleton_append, List.length_singleton, List.nil_append, List.length_nil, Nat.zero_add]
  by_cases h : guardOk l a = true
  · have hs := guardOk_sum h
    have h9 := (guardOk_den h).1
    simp only [h, if_true]
    rw [w64 (by omega) (by omega)]
    have key : ∀ x : Int, x = min (max n 0) (30 - l.sum) → (if ((1 + l.length : Nat) : Int) * ((8 : Nat) : Int) ≤ 140737488355328 then
        if 9 < ((List.length (x :: l) : Nat) : Int) then
          if (0 : Int) ≤ 9 then
            if 9 ≤ ((List.length (x :: l) : Nat) : Int) then
              if ((List.length (List.take (Int.toNat 9) (x :: l)) : Nat) : Int) * ((8 : Nat) : Int) ≤ 140737488355328 then some (List.take (Int.toNat 9) (x :: l), a) else none
            else none
          else none
        else some (x :: l, a)
      else none) = some (List.take 9 (min (max n 0) (30 - l.sum) :: l), a) := by
      intro x hx
      subst hx
      rw [if_pos (by omega)]
      split
      · rename_i h8
        rw [if_pos (by omega), if_pos (by omega), if_pos (by rw [List.length_take]; simp only [List.length_cons]; omega)]
        rfl
      · rename_i h8
        simp only [List.length_cons] at h8
        rw [List.take_of_length_le (by simp only [List.length_cons]; omega)]
    split
    · exact key _ (by omega)
    · exact key _ (by omega)
  · simp only [h, if_false, Bool.false_eq_true]
/- spec_StepRate -/
theorem spec_StepRate_eq (n d r : Int) : g_spec_StepRate (n, d, r) = some ((n, d, stepRest n d r), stepGives n d r) := by
  unfold g_spec_StepRate spec_StepRate_ stepRest stepGives
  simp only [spec_RateOk_eq, Option.bind_some]
  by_cases h : rateOk n d r = true
  · have h' := rateOk_den h
    obtain ⟨e1, e2⟩ := step_plain h
    simp only [h, if_true]
    rw [if_neg (by omega), if_neg (by omega), e1, e2]
  · simp only [h, if_false]; rfl
/- spec_Wants -/
theorem spec_Wants_eq (p : Pump) : g_spec_Wants p = some (wants p) := by
  obtain ⟨s, n, d, r, l, b, g, k⟩ := p
  unfold g_spec_Wants spec_Wants_
  simp only [spec_PumpOk_eq, spec_StepRate_eq, Option.bind_some, spec_l15Less_eq]
  by_cases h : pumpOk (s, n, d, r, l, b, g, k) = true
  · obtain ⟨_, a2, a3, _, _, a6, _, a8, _⟩ := pumpOk_den h
    have hg := stepGives_range (decide_eq_true a2) a3
    unfold wants runs
    simp only [h, if_true, Bool.true_and, decide_eq_true_eq]
    repeat' split
    all_goals first
      | (exfalso; omega)
      | rfl
      | (rw [w64 (by omega) (by omega)])
  · unfold wants runs
    simp only [h, if_false, Bool.false_and, Bool.false_eq_true]
/- spec_Give -/
theorem spec_Give_eq (p : Pump) (m : Int) : g_spec_Give (p, m) = some (give p m) := by
  obtain ⟨s, n, d, r, l, b, g, k⟩ := p
  unfold g_spec_Give spec_Give_
  simp only [spec_PumpOk_eq, spec_StepRate_eq, spec_Wants_eq, Option.bind_some, spec_l15Less_eq]
  have hw := wants_range (s, n, d, r, l, b, g, k)
  by_cases h : pumpOk (s, n, d, r, l, b, g, k) = true
  · obtain ⟨_, a2, a3, _, _, a6, _, a8, a9⟩ := pumpOk_den h
    unfold give runs giveB giveN
    simp only [h, if_true, Bool.true_and, decide_eq_true_eq]
    generalize hW : wants (s, n, d, r, l, b, g, k) = W at hw
    have key : ∀ N, N = min (max m 0) W → ∀ B, B = min N (min b 3) → wrap64 (b - B) = b - B ∧ wrap64 (g + N) = g + N ∧ wrap64 (N - B) = N - B ∧ wrap64 (l - (N - B)) = l - (N - B) := by
      intro N hN B hB
      have hN' : 0 ≤ N ∧ N ≤ 6 := by omega
      have hB' : 0 ≤ B ∧ B ≤ 3 ∧ B ≤ N := by omega
      exact ⟨w64 (by omega) (by omega), w64 (by omega) (by omega), w64 (by omega) (by omega), w64 (by omega) (by omega)⟩
    by_cases hm : min m W < 0
    · simp only [hm, if_true]
      have e : (0 : Int) = min (max m 0) W := by omega
      obtain ⟨k1, k2, k3, k4⟩ := key 0 e _ rfl
      rw [k1, k2, k3, k4, ← e]
      repeat' split
      all_goals first
        | rfl
        | (exfalso; omega)
        | (rename_i h0; rw [h0.2])
        | (rename_i h0; rw [h0])
        | (rename_i h0 _; rw [h0])
    · simp only [hm, if_false]
      have e : min m W = min (max m 0) W := by omega
      rw [e]
      obtain ⟨k1, k2, k3, k4⟩ := key _ rfl _ rfl
      rw [k1, k2, k3, k4]
      repeat' split
      all_goals first
        | rfl
        | (exfalso; omega)
        | (rename_i h0; rw [h0.2])
        | (rename_i h0; rw [h0])
        | (rename_i h0 _; rw [h0])
  · unfold give runs
    simp only [h, if_false, Bool.false_and, Bool.false_eq_true]
/- spec_Allow -/
theorem spec_Allow_eq (l : List Int) (a m : Int) (hl : l.length ≤ 9223372036854775806) : g_spec_Allow ((l, a), m) = some (allow l a m) := by
  unfold g_spec_Allow spec_Allow_ allow
  simp only [spec_GuardOk_eq l a hl, spec_RoomOf_eq l a hl, spec_l15Less_eq, Option.bind_some]
  by_cases h : guardOk l a = true
  · have hs := guardOk_sum h
    by_cases h0 : a = 0
    · by_cases hm : m < 0
      · rw [if_pos h, if_pos h0, if_pos hm, if_pos ⟨h, h0⟩]
        congr 1
        omega
      · rw [if_pos h, if_pos h0, if_neg hm, if_pos ⟨h, h0⟩, w64 (by omega) (by omega)]
        congr 1
        omega
    · simp only [h, h0, if_true, if_false, and_false]
  · simp only [h, if_false, false_and, Bool.false_eq_true]
/- spec_l13Both -/
theorem l13_or : ∀ a b : _root_.Fin 16, ∀ k : _root_.Fin 1, spec_l13Both_L4 5 ((a.val : Int), (b.val : Int), 0, 1, 0, ()) = some (ior .i64 (a.val : Int) (b.val : Int)) := by decide +kernel
theorem l13_more (k : Nat) : ∀ n x r, spec_l13Both_L4 n x = some r → spec_l13Both_L4 (n + k) x = some r := by
  intro n
  induction n with
  | zero => intro x r h; cases h
  | succ n ih =>
    intro x r h
    obtain ⟨b0, b1, b2, b3, b4, _⟩ := x
    rw [Nat.succ_add]
    rw [spec_l13Both_L4] at h ⊢
    revert h
    repeat' split
    all_goals first
      | exact fun h => h
      | exact fun h => ih _ _ h
theorem spec_l13Both_eq (a b : Int) (ha : 0 ≤ a ∧ a ≤ 15) (hb : 0 ≤ b ∧ b ≤ 15) : g_spec_l13Both (a, b) = some (ior .i64 a b) := by
  have h := l13_or ⟨a.toNat, by omega⟩ ⟨b.toNat, by omega⟩ 0
  simp only [Int.toNat_of_nonneg ha.1, Int.toNat_of_nonneg hb.1] at h
  refine evG_eq ⟨5, fun k hk => ?_⟩
  have := l13_more (k - 5) 5 _ _ h
  rw [show 5 + (k - 5) = k by omega] at this
  exact this
/- spec_Feel -/
theorem spec_Feel_eq (l : List Int) (a s : Int) (b : Bool) (hl : l.length ≤ 17592186044416) : g_spec_Feel ((l, a), (s, b)) = some (l, feel l a s b) := by
  unfold g_spec_Feel spec_Feel_ feel
  simp only [spec_l16Copy_eq l a hl, spec_GuardOk_eq l a (by omega), spec_SenseOk_eq, Option.bind_some]
  cases hg : guardOk l a with
  | false => simp
  | true =>
    cases hs : senseOk s with
    | false => simp
    | true =>
      have h1 := (guardOk_den hg).2.2.2
      unfold senseOk at h1 hs
      rw [spec_l13Both_eq a s (of_decide_eq_true h1) (of_decide_eq_true hs)]
      cases b <;> simp
/- spec_OrderOk -/
theorem spec_OrderOk_eq (o : Order) : g_spec_OrderOk o = some (orderOk o) := by
  obtain ⟨a, b, c, x⟩ := o
  show _ = some (decide (OrderOkP a b c x))
  unfold g_spec_OrderOk spec_OrderOk_
  simp only [spec_l01In_eq, Option.bind_some, decide_eq_true_eq, mn_eq]
  by_cases h : 1 ≤ c ∧ c ≤ 1000
  · have hw : wrap64 (3 * c) = 3 * c := w64 (by omega) (by omega)
    rw [hw]
    repeat' refine ite_r (fun _ => ?_) (fun _ => ?_)
    all_goals first
      | exact dec_no (by unfold OrderOkP; omega)
      | exact dec_yes (by unfold OrderOkP; omega)
      | (exfalso; omega)
      | (exfalso; simp_all; done)
      | (refine eq_dec ?_; simp only [Bool.and_eq_true, decide_eq_true_eq, decide_true, true_and]; unfold OrderOkP; omega)
  · simp only [h, if_false]
    repeat' refine ite_r (fun _ => ?_) (fun _ => ?_)
    all_goals first
      | exact dec_no (by unfold OrderOkP; omega)
      | exact dec_yes (by unfold OrderOkP; omega)
      | (exfalso; omega)
      | (exfalso; simp_all; done)
      | (refine eq_dec ?_; simp only [Bool.and_eq_true, decide_eq_true_eq, decide_true, true_and]; unfold OrderOkP; omega)
/- spec_Take -/
theorem spec_Take_eq (p : Pump) (o : Order) : g_spec_Take (p, o) = some (take p o) := by
  obtain ⟨s, n, d, r, l, b, g, k⟩ := p
  obtain ⟨a, c, e, x⟩ := o
  unfold g_spec_Take spec_Take_ take takeR
  simp only [spec_PumpOk_eq, spec_OrderOk_eq, Option.bind_some]
  by_cases h : pumpOk (s, n, d, r, l, b, g, k) = true
  · by_cases h' : orderOk (a, c, e, x) = true
    · obtain ⟨h1, _, _, _, _, _, _, h8, _⟩ := pumpOk_den h
      simp only [h, h', if_true, and_self]
      repeat' split
      all_goals first
        | rfl
        | (exfalso; omega)
        | (simp_all; done)
        | (simp_all; omega)
    · simp only [h, h', if_true, if_false, and_false, Bool.false_eq_true]
  · simp only [h, if_false, false_and, Bool.false_eq_true]
/- spec_l02Four -/
theorem spec_l02Four_eq (v : Int) : g_spec_l02Four v = some (four v) := by
  unfold g_spec_l02Four spec_l02Four_
  rw [if_pos (by decide), if_pos (by decide), if_pos (by decide)]
  have e1 := shr_u32 (v := v) 24 (by decide)
  have e2 := shr_u32 (v := v) 16 (by decide)
  have e3 := shr_u32 (v := v) 8 (by decide)
  unfold four
  have p1 : (2 : Int) ^ 24 = 16777216 := by decide
  have p2 : (2 : Int) ^ 16 = 65536 := by decide
  have p3 : (2 : Int) ^ 8 = 256 := by decide
  rw [p1] at e1; rw [p2] at e2; rw [p3] at e3
  rw [← e1, ← e2, ← e3]
  rfl
end Go.Sx.T
