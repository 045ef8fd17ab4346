/- Functions of the program as functions of Lean, and that the program keeps to them. -/
import Derived.Test.YtkcfdkfdmglamaaDoorFnExactShowDeviceA0
set_option maxRecDepth 100000
set_option linter.unusedVariables false
set_option linter.unusedSimpArgs false
namespace Go.Proofs
end Go.Proofs
namespace Go.Sx.T
open Go Go.Sx Go.Proofs Go.RowKit
/- laws_eqTick -/
theorem laws_eqTick_refl (p : Int × Int × Int) : g_laws_eqTick (p, p) = some true := by
  obtain ⟨a, b, c⟩ := p
  unfold g_laws_eqTick laws_eqTick_
  simp
/- laws_eqTickS -/
theorem laws_eqTickS_refl (l : List Tick) (hl : l.length ≤ 9223372036854775806) : g_laws_eqTickS (l, l) = some true := by
  refine evG_eq ?_
  unfold laws_eqTickS_
  refine ev_pos rfl ?_
  refine list_loop l (fun k (_ : Unit) i => laws_eqTickS_L4 (fun _ => g_laws_eqTick) k (i, l, l, ())) (fun _ _ => true) (fun _ => ?_) (fun i _ x rest hx hi h => ?_) 0 (by omega) ()
  · refine Ev.step (fun q => by rw [laws_eqTickS_L4]) ?_
    exact ev_neg (by omega) ev_some
  · refine Ev.step (fun q => by rw [laws_eqTickS_L4]) ?_
    refine ev_pos (by omega) (ev_pos (by omega) (ev_pos (by omega) (ev_pos (by omega) (ev_pos (by omega) (ev_bind (laws_eqTick_refl _) (ev_pos rfl ?_))))))
    rw [w64_succ (by omega)]
    exact h ()
/- laws_eqMenu -/
theorem laws_eqMenu_refl (m : Menu) : g_laws_eqMenu (m, m) = some true := by
  obtain ⟨a, b, n, d, s⟩ := m
  unfold g_laws_eqMenu laws_eqMenu_
  simp
/- laws_eqIntS -/
theorem laws_eqIntS_refl (l : List Int) (hl : l.length ≤ 9223372036854775806) : g_laws_eqIntS (l, l) = some true := by
  refine evG_eq ?_
  unfold laws_eqIntS_
  refine ev_pos rfl ?_
  refine list_loop l (fun k (_ : Unit) i => laws_eqIntS_L4 k (i, l, l, ())) (fun _ _ => true) (fun _ => ?_) (fun i _ x rest hx hi h => ?_) 0 (by omega) ()
  · refine Ev.step (fun q => by rw [laws_eqIntS_L4]) ?_
    exact ev_neg (by omega) ev_some
  · refine Ev.step (fun q => by rw [laws_eqIntS_L4]) ?_
    refine ev_pos (by omega) (ev_pos (by omega) (ev_pos (by omega) (ev_pos (by omega) (ev_pos (by omega) (ev_pos rfl ?_)))))
    rw [w64_succ (by omega)]
    exact h ()
/- laws_eqGuard -/
theorem laws_eqGuard_refl (l : List Int) (a : Int) (hl : l.length ≤ 9223372036854775806) : g_laws_eqGuard ((l, a), (l, a)) = some true := by
  unfold g_laws_eqGuard laws_eqGuard_
  simp [laws_eqIntS_refl l hl]
/- laws_eqRate -/
theorem laws_eqRate_refl (p : Int × Int × Int) : g_laws_eqRate (p, p) = some true := by
  obtain ⟨a, b, c⟩ := p
  unfold g_laws_eqRate laws_eqRate_
  simp
/- laws_eqPump -/
theorem laws_eqPump_refl (p : Pump) : g_laws_eqPump (p, p) = some true := by
  obtain ⟨s, n, d, r, l, b, g, k⟩ := p
  unfold g_laws_eqPump laws_eqPump_
  simp [laws_eqRate_refl]
/- laws_eqDevice -/
theorem laws_eqDevice_refl (d : Device) (h1 : d.2.2.2.2.2.2.2.2.1.length ≤ 9223372036854775806) (h2 : d.2.2.2.2.2.2.2.2.2.2.2.2.2.2.2.1.length ≤ 9223372036854775806) : g_laws_eqDevice (d, d) = some true := by
  obtain ⟨s, n, e, r, l, b, g, k, past, alarm, a, bo, nu, de, di, ts, ref⟩ := d
  unfold g_laws_eqDevice laws_eqDevice_
  simp only [laws_eqPump_refl, laws_eqGuard_refl past alarm h1, laws_eqMenu_refl, laws_eqTickS_refl ts h2, Option.bind_some, if_true]
/- laws_toTick -/
theorem laws_toTick_eq (p : Int × Int × Int) : g_laws_toTick p = some p := rfl
/- laws_toTickS -/
theorem laws_toTickS_eq (l : List Tick) (hl : l.length ≤ 1048576) : g_laws_toTickS l = some l := by
  refine evG_eq ?_
  unfold laws_toTickS_
  refine ev_pos rfl (ev_pos (by omega) (ev_pos (by omega) ?_))
  rw [Int.toNat_natCast]
  refine map_loop (0, (0, 0)) l (fun k out i => laws_toTickS_L3 (fun _ => g_laws_toTick) k (i, l, out, ())) (fun out => ?_) (fun i x out r hx hi ho h => ?_)
  · refine Ev.step (fun q => by rw [laws_toTickS_L3]) ?_
    exact ev_neg (by omega) ev_some
  · refine Ev.step (fun q => by rw [laws_toTickS_L3]) ?_
    refine ev_pos (by omega) (ev_pos (by omega) (ev_pos (by omega) (ev_bind (laws_toTick_eq _) (ev_pos (by omega) (ev_pos (by omega) ?_)))))
    rw [getD_at hx, w64_succ (by omega), Int.toNat_natCast]
    exact h
/- laws_toMenu -/
theorem laws_toMenu_eq (m : Menu) : g_laws_toMenu m = some m := rfl
/- laws_toIntS -/
theorem laws_toIntS_eq (l : List Int) (hl : l.length ≤ 1048576) : g_laws_toIntS l = some l := by
  refine evG_eq ?_
  unfold laws_toIntS_
  refine ev_pos rfl (ev_pos (by omega) (ev_pos (by omega) ?_))
  rw [Int.toNat_natCast]
  refine map_loop 0 l (fun k out i => laws_toIntS_L3 k (i, l, out, ())) (fun out => ?_) (fun i x out r hx hi ho h => ?_)
  · refine Ev.step (fun q => by rw [laws_toIntS_L3]) ?_
    exact ev_neg (by omega) ev_some
  · refine Ev.step (fun q => by rw [laws_toIntS_L3]) ?_
    refine ev_pos (by omega) (ev_pos (by omega) (ev_pos (by omega) (ev_pos (by omega) (ev_pos (by omega) ?_))))
    rw [getD_at hx, w64_succ (by omega), Int.toNat_natCast]
    exact h
/- laws_toGuard -/
theorem laws_toGuard_eq (l : List Int) (a : Int) (hl : l.length ≤ 1048576) : g_laws_toGuard (l, a) = some (l, a) := by
  unfold g_laws_toGuard laws_toGuard_
  simp only [laws_toIntS_eq l hl, Option.bind_some]
/- laws_toRate -/
theorem laws_toRate_eq (p : Int × Int × Int) : g_laws_toRate p = some p := rfl
/- laws_toPump -/
theorem laws_toPump_eq (p : Pump) : g_laws_toPump p = some p := rfl
/- laws_toDevice -/
theorem laws_toDevice_eq (d : Device) (h : Short d) : g_laws_toDevice d = some d := by
  obtain ⟨s, n, e, r, l, b, g, k, past, alarm, a, bo, nu, de, di, ts, ref⟩ := d
  unfold g_laws_toDevice laws_toDevice_
  simp only [laws_toPump_eq, laws_toGuard_eq past alarm h.1, laws_toMenu_eq, laws_toTickS_eq ts h.2.2, Option.bind_some]
/- impl_within -/
theorem impl_within_eq (a b c : Int) : g_impl_within (a, b, c) = some (decide (b ≤ a ∧ a ≤ c)) := by
  show (if b ≤ a then some (decide (a ≤ c)) else some false) = _
  split
  · rename_i h; refine eq_dec ?_; rw [decide_eq_true_iff]; omega
  · rename_i h; exact dec_no (by omega)
/- impl_SenseOk -/
theorem impl_SenseOk_eq (a : Int) : g_impl_SenseOk a = some (senseOk a) := by
  unfold g_impl_SenseOk impl_SenseOk_
  simp only [impl_within_eq, Option.bind_some]; rfl
/- impl_SenseNames -/
def nameL : List ByteArray := [(⟨#[98, 108, 111, 99, 107]⟩ : ByteArray), (⟨#[97, 105, 114]⟩ : ByteArray), (⟨#[100, 111, 111, 114]⟩ : ByteArray), (⟨#[112, 111, 119, 101, 114]⟩ : ByteArray)]
def bitL (a : Nat) : List Bool := [a % 2 == 1, a / 2 % 2 == 1, a / 4 % 2 == 1, a / 8 % 2 == 1]
def pickL : List Bool → List ByteArray → List ByteArray
  | true :: r, x :: l => x :: pickL r l
  | false :: r, _ :: l => pickL r l
  | _, _ => []
theorem bit_imp : ∀ (a : _root_.Fin 16) (i : _root_.Fin 4), (iand .i64 (Int.fdiv (a.val : Int) (2 ^ (min (Int.toNat (i.val : Int)) (IntKind.bits .i64)))) 1 = 1) ↔ (bitL a.val).getD i.val false = true := by decide +kernel
theorem impl_SenseNames_loop (a : Nat) (ha : a < 16) : ∀ (d i : Nat), i + d = 4 → ∀ acc : List ByteArray, acc.length ≤ i → ∀ r, joinF (acc ++ pickL ((bitL a).drop i) (nameL.drop i)) ⟨#[44]⟩ = some r →
    Ev (fun k => impl_SenseNames_L7 (fun _ => g_impl_SenseOk) (fun _ => g_strings_Join) k ((a : Int), 4, (i : Int), acc, nameL, ())) r := by
  intro d
  induction d with
  | zero =>
    intro i hi acc hacc r hr
    have : i = 4 := by omega
    subst this
    have e : acc ++ pickL ((bitL a).drop 4) (nameL.drop 4) = acc := by simp [bitL, nameL, pickL]
    rw [e] at hr
    refine Ev.step (fun q => by rw [impl_SenseNames_L7]) ?_
    exact ev_neg (by decide) (ev_bind hr ev_some)
  | succ d ih =>
    intro i hi acc hacc r hr
    have hi4 : i < 4 := by omega
    have hn : (nameL.length) = 4 := rfl
    refine Ev.step (fun q => by rw [impl_SenseNames_L7]) ?_
    rw [w64_succ (by omega)]
    refine ev_pos (by omega) (ev_pos (by omega) (ev_pos (by rw [hn]; omega) (ev_pos (by omega) ?_)))
    have key := bit_imp ⟨a, ha⟩ ⟨i, hi4⟩
    have hbl : i < (bitL a).length := by simp [bitL]; omega
    have hnl : i < nameL.length := by rw [hn]; exact hi4
    have d1 : (bitL a).drop i = (bitL a)[i] :: (bitL a).drop (i + 1) := List.drop_eq_getElem_cons hbl
    have d2 : nameL.drop i = nameL[i] :: nameL.drop (i + 1) := List.drop_eq_getElem_cons hnl
    have hg : nameL.getD (i : Int).toNat (⟨#[]⟩ : ByteArray) = nameL[i] := getD_lt hnl
    have hb : (bitL a).getD i false = (bitL a)[i] := by rw [List.getD_eq_getElem?_getD, List.getElem?_eq_getElem hbl]; rfl
    rw [hb] at key
    rw [d1, d2] at hr
    cases hbit : (bitL a)[i] with
    | true =>
      rw [hbit] at hr
      refine ev_pos (key.2 hbit) (ev_pos (by simp only [List.length_singleton]; omega) ?_)
      rw [hg]
      refine ih (i + 1) (by omega) (acc ++ [nameL[i]]) (by simp only [List.length_append, List.length_singleton]; omega) r ?_
      rw [List.append_assoc]
      exact hr
    | false =>
      rw [hbit] at hr
      refine ev_neg (fun q => by have := key.1 q; rw [hbit] at this; cases this) ?_
      exact ih (i + 1) (by omega) acc (by omega) r hr
def senseT (a : Nat) : ByteArray := if a = 0 then (⟨#[110, 111, 110, 101]⟩ : ByteArray) else (joinF (pickL (bitL a) nameL) ⟨#[44]⟩).getD ⟨#[]⟩
theorem sense_join : ∀ a : _root_.Fin 16, a.val ≠ 0 → joinF (pickL (bitL a.val) nameL) ⟨#[44]⟩ = some (senseT a.val) := by
  intro a h
  have hs : ∀ a : _root_.Fin 16, (joinF (pickL (bitL a.val) nameL) ⟨#[44]⟩).isSome = true := by decide +kernel
  unfold senseT
  rw [if_neg h]
  have := hs a
  cases hj : joinF (pickL (bitL a.val) nameL) ⟨#[44]⟩ with
  | none => rw [hj] at this; cases this
  | some r => rfl
theorem impl_SenseNames_eq (a : Nat) (ha : a < 16) : g_impl_SenseNames (a : Int) = some (senseT a) := by
  refine evG_eq ?_
  unfold impl_SenseNames_
  have hok : senseOk (a : Int) = true := by unfold senseOk; exact decide_eq_true (by omega)
  have e := impl_SenseOk_eq (a : Int)
  rw [hok] at e
  by_cases h0 : a = 0
  · subst h0
    exact ev_bind e (ev_pos rfl (ev_pos rfl (ev_eq rfl)))
  · refine ev_bind e (ev_pos rfl (ev_neg (by omega) ?_))
    exact impl_SenseNames_loop a ha 4 0 rfl [] (Nat.le_refl _) _ (sense_join ⟨a, ha⟩ h0)
/- impl_Decimal -/
theorem impl_Decimal_eq (n : Nat) (hn : n ≤ 10000000000000) : g_impl_Decimal (n : Int) = some (decB n) := by
  have e : g_strconv_Itoa (n : Int) = some (decB n) := itoaF_nat (Nat.le_trans hn (by decide))
  unfold g_impl_Decimal impl_Decimal_
  simp only [e, Option.bind_some]
/- impl_MenuNew -/
theorem impl_MenuNew_eq : g_impl_MenuNew () = some menuNew := rfl
/- impl_MenuOk -/
theorem impl_MenuOk_eq (a : Int) (b : Bool) (n d : Int) (s : ByteArray) (hs : s.size ≤ 1048580) : g_impl_MenuOk (a, b, n, d, s) = some (menuOk (a, b, n, d, s)) := by
  refine evG_eq ?_
  unfold impl_MenuOk_
  refine Ev.cast (bytes_loop s (fun k (_ : Unit) i => impl_MenuOk_L2 (fun _ => g_impl_MenuNew) (fun _ => g_impl_within) k ((s.size : Int), i, a, b, n, d, s, ())) (fun r _ => digitsOk r && (if a = 1 then decide (s.size = 0 ∧ b = false ∧ n = 0 ∧ d = 0) else decide ((2 ≤ a ∧ a ≤ 4) ∧ (0 ≤ n ∧ n ≤ 9999) ∧ (0 ≤ d ∧ d ≤ 9999) ∧ s.size ≤ 4))) (fun _ => ?_) (fun i _ x rest hx hi h => ?_) ()) ?_
  · refine Ev.step (fun q => by rw [impl_MenuOk_L2]) ?_
    refine ev_neg (by omega) ?_
    by_cases h1 : a = 1
    · refine ev_pos h1 (ev_bind impl_MenuNew_eq (Ev.cast ev_some ?_))
      rw [if_pos h1]
      show (decide (a = 1) && ((b == false) && (decide (n = 0) && (decide (d = 0) && decide (s = ⟨#[]⟩))))) = (digitsOk [] && decide (s.size = 0 ∧ b = false ∧ n = 0 ∧ d = 0))
      rw [Bool.eq_iff_iff]
      simp only [Bool.and_eq_true, decide_eq_true_iff, beq_iff_eq, eq_empty]
      constructor
      · rintro ⟨_, h2, h3, h4, h5⟩; exact ⟨rfl, h5, h2, h3, h4⟩
      · rintro ⟨_, h5, h2, h3, h4⟩; exact ⟨h1, h2, h3, h4, h5⟩
    · refine ev_neg h1 ?_
      simp only [impl_within_eq, Option.bind_some, decide_eq_true_eq, if_neg h1]
      refine ev_eq ?_
      show _ = some (digitsOk [] && _)
      rw [show digitsOk [] = true from rfl, Bool.true_and]
      repeat' refine ite_r (fun _ => ?_) (fun _ => ?_)
      all_goals first
        | exact dec_no (by omega)
        | (refine eq_dec ?_; rw [decide_eq_true_iff]; omega)
  · refine Ev.step (fun q => by rw [impl_MenuOk_L2]) ?_
    refine ev_pos (by omega) (ev_pos (by omega) (ev_pos (by omega) ?_))
    have := u8_range x
    rw [byt_drop hx, w64_succ (by omega), w64 (by omega) (by omega)]
    refine ev_bind (impl_within_eq _ _ _) ?_
    by_cases h1 : 48 ≤ (x.toNat : Int) ∧ (x.toNat : Int) ≤ 57
    · refine ev_pos (decide_eq_true h1) (Ev.cast (h ()) ?_)
      rw [digitsOk_cons, decide_eq_true h1, Bool.true_and]
    · refine ev_neg (by simpa using h1) (Ev.cast ev_some ?_)
      rw [digitsOk_cons, decide_eq_false h1]; rfl
  · show _ = decide (MenuOkP a b n d s)
    rw [Bool.eq_iff_iff]
    refine Iff.trans ?_ decide_eq_true_iff.symm
    rw [Bool.and_eq_true]
    unfold MenuOkP
    by_cases h1 : a = 1
    · rw [if_pos h1, decide_eq_true_iff]
      constructor
      · rintro ⟨h2, h3, h4, h5, h6⟩; exact ⟨h2, by omega, by omega, by omega, by omega, fun _ => ⟨h3, h4, h5, h6⟩⟩
      · rintro ⟨h2, _, _, _, _, h3⟩; exact ⟨h2, h3 h1⟩
    · rw [if_neg h1, decide_eq_true_iff]
      constructor
      · rintro ⟨h2, h3, h4, h5, h6⟩; exact ⟨h2, by omega, h4, h5, h6, fun q => absurd q h1⟩
      · rintro ⟨h2, h3, h4, h5, h6, _⟩; exact ⟨h2, by omega, h4, h5, h6⟩
/- impl_RoomOf -/
theorem impl_RoomOf_eq (l : List Int) (a : Int) (hl : l.length ≤ 9223372036854775806) : g_impl_RoomOf (l, a) = some (wrap64 (30 - l.sum)) := by
  refine evG_eq ?_
  unfold impl_RoomOf_
  refine Ev.congr (g := fun k => impl_RoomOf_L3 k (wrap64 30, (l.length : Int), ((0 : Nat) : Int), l, ())) (fun k => by rw [w64 (n := 30) (by omega) (by omega)]; rfl) ?_
  refine Ev.cast (list_loop l (fun k s i => impl_RoomOf_L3 k (wrap64 s, (l.length : Int), i, l, ())) (fun r s => wrap64 (s - r.sum)) (fun s => ?_) (fun i s x rest hx hi h => ?_) 0 (by omega) 30) (by simp)
  · refine Ev.step (fun q => by rw [impl_RoomOf_L3]) ?_
    exact ev_neg (by omega) (Ev.cast ev_some (by simp))
  · refine Ev.step (fun q => by rw [impl_RoomOf_L3]) ?_
    refine ev_pos (by omega) (ev_pos (by omega) (ev_pos (by omega) ?_))
    rw [getD_drop hx, w64_succ (by omega), wrap64_sub]
    refine Ev.cast (h (s - x)) ?_
    congr 1
    simp only [List.sum_cons]; omega
/- impl_GuardOk -/
theorem impl_GuardOk_eq (l : List Int) (a : Int) (hl : l.length ≤ 9223372036854775806) : g_impl_GuardOk (l, a) = some (guardOk l a) := by
  refine evG_eq ?_
  unfold impl_GuardOk_
  have hend : Ev (fun k => impl_GuardOk_L2 (fun _ => g_impl_RoomOf) (fun _ => g_impl_SenseOk) (fun _ => g_impl_within) k ((l.length : Int), (l.length : Int), l, a, ())) (if pastOk l = true then guardOk l a else decide (l.length ≤ 9) && decide (0 ≤ wrap64 (30 - l.sum)) && senseOk a) := by
    refine Ev.step (fun q => by rw [impl_GuardOk_L2]) ?_
    refine ev_neg (by omega) ?_
    by_cases h9 : (l.length : Int) ≤ 9
    · refine ev_pos h9 (ev_bind (impl_RoomOf_eq l a hl) ?_)
      simp only [impl_SenseOk_eq, Option.bind_some]
      have h9' : l.length ≤ 9 := by omega
      by_cases hp : pastOk l = true
      · have hs := pastOk_sum hp
        rw [w64 (by omega) (by omega), if_pos hp]
        unfold guardOk
        rw [hp]
        by_cases h30 : l.sum ≤ 30
        · refine ev_pos (by omega) (Ev.cast ev_some ?_)
          simp [h9', h30]
        · refine ev_neg (by omega) (Ev.cast ev_some ?_)
          simp [h30]
      · rw [if_neg hp]
        by_cases h30 : 0 ≤ wrap64 (30 - l.sum)
        · refine ev_pos h30 (Ev.cast ev_some ?_)
          simp [h9', h30]
        · refine ev_neg h30 (Ev.cast ev_some ?_)
          simp [h30]
    · refine ev_neg h9 (Ev.cast ev_some ?_)
      have h9' : ¬ l.length ≤ 9 := by omega
      unfold guardOk
      split <;> simp [h9']
  refine Ev.cast (list_loop l (fun k (_ : Unit) i => impl_GuardOk_L2 (fun _ => g_impl_RoomOf) (fun _ => g_impl_SenseOk) (fun _ => g_impl_within) k ((l.length : Int), i, l, a, ())) (fun r _ => pastOk r && (if pastOk l = true then guardOk l a else decide (l.length ≤ 9) && decide (0 ≤ wrap64 (30 - l.sum)) && senseOk a)) (fun _ => Ev.cast hend (by simp [pastOk])) (fun i _ x rest hx hi h => ?_) 0 (by omega) ()) ?_
  · refine Ev.step (fun q => by rw [impl_GuardOk_L2]) ?_
    refine ev_pos (by omega) (ev_pos (by omega) (ev_pos (by omega) ?_))
    rw [getD_drop hx, impl_within_eq, w64_succ (by omega)]
    simp only [Option.bind_some, decide_eq_true_eq]
    by_cases hx2 : 0 ≤ x ∧ x ≤ 30
    · refine ev_pos hx2 (Ev.cast (h ()) ?_)
      rw [pastOk_cons]; simp [hx2]
    · refine ev_neg hx2 (Ev.cast ev_some ?_)
      rw [pastOk_cons]; simp [hx2]
  · simp only [List.drop_zero]
    cases hp : pastOk l with
    | true => simp
    | false => unfold guardOk; rw [hp]; simp
/- impl_RateOk -/
theorem impl_RateOk_eq (n d r : Int) : g_impl_RateOk (n, d, r) = some (rateOk n d r) := by
  unfold g_impl_RateOk impl_RateOk_ rateOk
  simp only [impl_within_eq, Option.bind_some, decide_eq_true_eq]
  by_cases h1 : 0 ≤ n ∧ n ≤ 1000000
  · by_cases h2 : 1 ≤ d ∧ d ≤ 1000000
    · rw [if_pos h1, if_pos h2, w64 (by omega) (by omega)]
      refine eq_dec ?_
      rw [decide_eq_true_iff]; unfold RateOkP; omega
    · rw [if_pos h1, if_neg h2]; exact dec_no (by unfold RateOkP; omega)
  · rw [if_neg h1]; exact dec_no (by unfold RateOkP; omega)
/- impl_PumpOk -/
theorem impl_PumpOk_eq (p : Pump) : g_impl_PumpOk p = some (pumpOk p) := by
  obtain ⟨s, n, d, r, l, b, g, k⟩ := p
  show _ = some (decide (PumpOkP s n d r l b g k))
  unfold g_impl_PumpOk impl_PumpOk_
  simp only [impl_within_eq, impl_RateOk_eq, Option.bind_some, decide_eq_true_eq, rateOk, beq_iff_eq, Bool.true_eq, Bool.false_eq, decide_eq_false_iff_not, decide_eq_decide]
  by_cases h : RateOkP n d r
  · have hw : wrap64 (3 * d) = 3 * d := by unfold RateOkP at h; exact w64 (by omega) (by omega)
    rw [hw]
    have h0 := h
    unfold RateOkP at h
    repeat' refine ite_r (fun _ => ?_) (fun _ => ?_)
    all_goals first
      | exact absurd h0 (by assumption)
      | exact dec_no (by unfold PumpOkP RateOkP; omega)
      | exact dec_yes (by unfold PumpOkP RateOkP; omega)
      | (refine eq_dec ?_; rw [decide_eq_true_iff]; unfold PumpOkP RateOkP; omega)
  · simp only [h, if_false]
    repeat' refine ite_r (fun _ => ?_) (fun _ => ?_)
    all_goals exact dec_no (by unfold PumpOkP; exact fun q => h q.2.1)
/- impl_DeviceOk -/
theorem impl_DeviceOk_eq (p : Pump) (past : List Int) (alarm : Int) (m : Menu) (ts : List Tick) (ref : Int) (h1 : past.length ≤ 9223372036854775806) (h2 : m.2.2.2.2.size ≤ 1048580) : g_impl_DeviceOk (dev p past alarm m ts ref) = some (deviceOk p past alarm m ts ref) := by
  obtain ⟨s, n, e, r, l, b, g, k⟩ := p
  obtain ⟨a, bo, nu, de, di⟩ := m
  unfold g_impl_DeviceOk impl_DeviceOk_ dev deviceOk g_impl_isNumber impl_isNumber_
  simp only [impl_PumpOk_eq, impl_GuardOk_eq past alarm h1, impl_MenuOk_eq a bo nu de di h2, impl_within_eq, Option.bind_some]
  cases pumpOk (s, n, e, r, l, b, g, k) with
  | false => simp
  | true =>
    cases guardOk past alarm with
    | false => simp
    | true =>
      cases menuOk (a, bo, nu, de, di) with
      | false => simp
      | true =>
        simp only [if_true, Bool.true_and]
        by_cases h : (ts.length : Int) ≤ 200
        · rw [if_pos h, decide_eq_true (show ts.length ≤ 200 by omega), Bool.true_and]
        · rw [if_neg h, decide_eq_false (show ¬ ts.length ≤ 200 by omega), Bool.false_and]
/- impl_ShowDevice -/
-- needs: impl_SenseNames impl_Decimal impl_DeviceOk
theorem bind_eq {α β : Type} {g : Option α} {f : α → Option β} {a : α} {r : Option β} (h : g = some a) (k : f a = r) : g.bind f = r := by rw [h]; exact k
theorem decB_size (n : Nat) : (decB n).size ≤ n + 1 := by
  induction n using Nat.strongRecOn with
  | ind n ih =>
    rw [size_bl, bl_decB, Go.Lib.decDigits]
    by_cases h : n < 10
    · rw [dif_pos h]; simp
    · rw [dif_neg h, List.length_append, ← bl_decB, ← size_bl]
      have := ih (n / 10) (by omega)
      simp only [List.length_singleton]
      omega
theorem senseT_size : ∀ a : _root_.Fin 16, (senseT a.val).size ≤ 100 := by decide +kernel
def showX (s g l a : Nat) : ByteArray := ((((((((⟨#[115, 116, 97, 116, 101, 32]⟩ : ByteArray) ++ decB s) ++ (⟨#[32, 103, 105, 118, 101, 110, 32]⟩ : ByteArray)) ++ decB g) ++ (⟨#[32, 108, 101, 102, 116, 32]⟩ : ByteArray)) ++ decB l) ++ (⟨#[32, 97, 108, 97, 114, 109, 32]⟩ : ByteArray)) ++ senseT a) ++ (⟨#[10]⟩ : ByteArray)
theorem show_nums {p : Pump} {past : List Int} {alarm : Int} {m : Menu} {ts : List Tick} {ref : Int} (h : deviceOk p past alarm m ts ref = true) : ∃ s g l a : Nat, p.1 = (s : Int) ∧ p.2.2.2.2.2.2.1 = (g : Int) ∧ p.2.2.2.2.1 = (l : Int) ∧ alarm = (a : Int) ∧ s ≤ 10000000000000 ∧ g ≤ 10000000000000 ∧ l ≤ 10000000000000 ∧ a < 16 := by
  obtain ⟨h1, h2, _⟩ := deviceOk_den h
  obtain ⟨s, n, d, r, l, b, g, k⟩ := p
  have h3 := pumpOk_den h1
  unfold PumpOkP at h3
  have h4 := senseOk_den (guardOk_den h2).2.2.2
  obtain ⟨q1, _, _, _, _, q2, _, _, q3⟩ := h3
  refine ⟨s.toNat, g.toNat, l.toNat, alarm.toNat, ?_, ?_, ?_, ?_, ?_, ?_, ?_, ?_⟩ <;> first | omega | (show s = _; omega) | (show g = _; omega) | (show l = _; omega)
theorem impl_ShowDevice_ok {p : Pump} {past : List Int} {alarm : Int} {m : Menu} {ts : List Tick} {ref : Int} {s g l a : Nat} (e : g_impl_DeviceOk (dev p past alarm m ts ref) = some true) (h1 : p.1 = (s : Int)) (h2 : p.2.2.2.2.2.2.1 = (g : Int)) (h3 : p.2.2.2.2.1 = (l : Int)) (h4 : alarm = (a : Int)) (b1 : s ≤ 10000000000000) (b2 : g ≤ 10000000000000) (b3 : l ≤ 10000000000000) (b4 : a < 16) :
    g_impl_ShowDevice (dev p past alarm m ts ref) = some (showX s g l a) := by
  have e1 : g_impl_Decimal p.1 = some (decB s) := by rw [h1]; exact impl_Decimal_eq s b1
  have e2 : g_impl_Decimal p.2.2.2.2.2.2.1 = some (decB g) := by rw [h2]; exact impl_Decimal_eq g b2
  have e3 : g_impl_Decimal p.2.2.2.2.1 = some (decB l) := by rw [h3]; exact impl_Decimal_eq l b3
  have e4 : g_impl_SenseNames alarm = some (senseT a) := by rw [h4]; exact impl_SenseNames_eq a b4
  have z1 := decB_size s
  have z2 := decB_size g
  have z3 := decB_size l
  have z4 := senseT_size ⟨a, b4⟩
  have z4 : (senseT a).size ≤ 100 := z4
  have y1 : (⟨#[115, 116, 97, 116, 101, 32]⟩ : ByteArray).size = 6 := rfl
  have y2 : (⟨#[32, 103, 105, 118, 101, 110, 32]⟩ : ByteArray).size = 7 := rfl
  have y3 : (⟨#[32, 108, 101, 102, 116, 32]⟩ : ByteArray).size = 6 := rfl
  have y4 : (⟨#[32, 97, 108, 97, 114, 109, 32]⟩ : ByteArray).size = 7 := rfl
  have y5 : (⟨#[10]⟩ : ByteArray).size = 1 := rfl
  unfold showX
  clear h1 h2 h3 h4
  unfold g_impl_ShowDevice impl_ShowDevice_
  exact bind_eq e ((if_pos rfl).trans (bind_eq e1 ((if_pos (by omega)).trans ((if_pos (by simp only [size_append]; omega)).trans (bind_eq e2 ((if_pos (by simp only [size_append]; omega)).trans ((if_pos (by simp only [size_append]; omega)).trans (bind_eq e3 ((if_pos (by simp only [size_append]; omega)).trans ((if_pos (by simp only [size_append]; omega)).trans (bind_eq e4 ((if_pos (by simp only [size_append]; omega)).trans ((if_pos (by simp only [size_append]; omega)).trans rfl)))))))))))))
/- spec_l01In -/
theorem spec_l01In_eq (a b c : Int) : g_spec_l01In (a, b, c) = some (decide (b ≤ a ∧ a ≤ c)) := by
  show (if b ≤ a then some (decide (a ≤ c)) else some false) = _
  split
  · rename_i h; refine eq_dec ?_; rw [decide_eq_true_iff]; omega
  · rename_i h; exact dec_no (by omega)
/- spec_SenseOk -/
theorem spec_SenseOk_eq (a : Int) : g_spec_SenseOk a = some (senseOk a) := by
  unfold g_spec_SenseOk spec_SenseOk_
  simp only [spec_l01In_eq, Option.bind_some]; rfl
/- spec_Has -/
def hs (a m : Int) : Bool := decide ((Int.tmod (wrap64 (Int.tdiv a m)) 2) = 1)
theorem has15 : ∀ a b : _root_.Fin 16, ∀ m ∈ [(1 : Int), 2, 4, 8], hs (ior .i64 (a.val : Int) (b.val : Int)) m = (hs (a.val : Int) m || hs (b.val : Int) m) := by decide +kernel
theorem Has_or {a b m : Int} (ha : senseOk a = true) (hb : senseOk b = true) (hm : m ∈ [(1 : Int), 2, 4, 8]) : hs (ior .i64 a b) m = (hs a m || hs b m) := by
  unfold senseOk at ha hb
  have ha := of_decide_eq_true ha
  have hb := of_decide_eq_true hb
  have h := has15 ⟨a.toNat, by omega⟩ ⟨b.toNat, by omega⟩ m hm
  simp only [Int.toNat_of_nonneg ha.1, Int.toNat_of_nonneg hb.1] at h
  exact h
theorem spec_Has_eq {a m : Int} (ha : senseOk a = true) (hm : m ∈ [(1 : Int), 2, 4, 8]) : g_spec_Has (a, m) = some (hs a m) := by
  unfold g_spec_Has spec_Has_
  simp only [spec_SenseOk_eq, Option.bind_some, ha, if_true]
  simp at hm
  rcases hm with rfl | rfl | rfl | rfl <;> rfl
/- spec_SenseNames -/
-- needs: impl_SenseNames spec_Has
def bitsL : List Int := [1, 2, 4, 8]
def specF : List Bool → List ByteArray → ByteArray → ByteArray
  | true :: r, x :: l, acc => specF r l (if acc = (⟨#[]⟩ : ByteArray) then acc ++ x else (acc ++ (⟨#[44]⟩ : ByteArray)) ++ x)
  | false :: r, _ :: l, acc => specF r l acc
  | _, _, acc => if acc = (⟨#[]⟩ : ByteArray) then (⟨#[110, 111, 110, 101]⟩ : ByteArray) else acc
theorem has_bit : ∀ (a : _root_.Fin 16) (i : _root_.Fin 4), hs (a.val : Int) (bitsL.getD i.val 0) = (bitL a.val).getD i.val false := by decide +kernel
theorem name_size : ∀ x ∈ nameL, x.size ≤ 5 := by decide
theorem bits_mem : ∀ i : _root_.Fin 4, bitsL.getD i.val 0 ∈ [(1 : Int), 2, 4, 8] := by decide
theorem spec_SenseNames_loop (a : Nat) (ha : a < 16) : ∀ (d i : Nat), i + d = 4 → ∀ acc : ByteArray, acc.size ≤ 6 * i →
    Ev (fun k => spec_SenseNames_L7 (fun _ => g_spec_Has) (fun _ => g_spec_SenseOk) k ((a : Int), acc, (i : Int), nameL, bitsL, ())) (specF ((bitL a).drop i) (nameL.drop i) acc) := by
  have hok : senseOk (a : Int) = true := by unfold senseOk; exact decide_eq_true (by omega)
  intro d
  induction d with
  | zero =>
    intro i hi acc hacc
    have : i = 4 := by omega
    subst this
    have e : specF ((bitL a).drop 4) (nameL.drop 4) acc = if acc = (⟨#[]⟩ : ByteArray) then (⟨#[110, 111, 110, 101]⟩ : ByteArray) else acc := by simp [bitL, nameL, specF]
    rw [e]
    refine Ev.step (fun q => by rw [spec_SenseNames_L7]) ?_
    refine ev_neg (by decide) (ev_dom (fun h => ?_) (fun h => ?_))
    · rw [if_pos h]; exact ev_some
    · rw [if_neg h]; exact ev_some
  | succ d ih =>
    intro i hi acc hacc
    have hi4 : i < 4 := by omega
    have hn : (nameL.length) = 4 := rfl
    have hbn : (bitsL.length) = 4 := rfl
    have key := has_bit ⟨a, ha⟩ ⟨i, hi4⟩
    have hm := bits_mem ⟨i, hi4⟩
    have hbl : i < (bitL a).length := by simp [bitL]; omega
    have hnl : i < nameL.length := by rw [hn]; exact hi4
    have d1 : (bitL a).drop i = (bitL a)[i] :: (bitL a).drop (i + 1) := List.drop_eq_getElem_cons hbl
    have d2 : nameL.drop i = nameL[i] :: nameL.drop (i + 1) := List.drop_eq_getElem_cons hnl
    have hg : nameL.getD (i : Int).toNat (⟨#[]⟩ : ByteArray) = nameL[i] := getD_lt hnl
    have hb : (bitL a).getD i false = (bitL a)[i] := by rw [List.getD_eq_getElem?_getD, List.getElem?_eq_getElem hbl]; rfl
    have hz : nameL[i].size ≤ 5 := name_size _ (List.getElem_mem hnl)
    have h44 : (⟨#[44]⟩ : ByteArray).size = 1 := rfl
    have eH : g_spec_Has ((a : Int), bitsL.getD (i : Int).toNat 0) = some (hs (a : Int) (bitsL.getD i 0)) := spec_Has_eq hok hm
    rw [hb] at key
    have key : hs (a : Int) (bitsL.getD i 0) = (bitL a)[i] := key
    rw [key] at eH
    rw [d1, d2]
    refine Ev.step (fun q => by rw [spec_SenseNames_L7]) ?_
    rw [w64_succ (by omega), hg]
    refine ev_pos (by omega) (ev_pos (by omega) (ev_pos (by rw [hbn]; omega) (ev_bind eH ?_)))
    cases hbit : (bitL a)[i] with
    | true =>
      refine ev_pos rfl (ev_dom (fun h => ?_) (fun h => ?_))
      · refine ev_pos (by omega) (ev_pos (by rw [hn]; omega) (ev_pos (by omega) ?_))
        have e : specF (true :: (bitL a).drop (i + 1)) (nameL[i] :: nameL.drop (i + 1)) acc = specF ((bitL a).drop (i + 1)) (nameL.drop (i + 1)) (acc ++ nameL[i]) := by
          rw [specF, if_pos h]
        rw [e]
        exact ih (i + 1) (by omega) _ (by rw [size_append]; omega)
      · refine ev_pos (by omega) (ev_pos (by omega) (ev_pos (by rw [hn]; omega) (ev_pos (by rw [size_append]; omega) ?_)))
        have e : specF (true :: (bitL a).drop (i + 1)) (nameL[i] :: nameL.drop (i + 1)) acc = specF ((bitL a).drop (i + 1)) (nameL.drop (i + 1)) ((acc ++ (⟨#[44]⟩ : ByteArray)) ++ nameL[i]) := by
          rw [specF, if_neg h]
        rw [e]
        exact ih (i + 1) (by omega) _ (by rw [size_append, size_append]; omega)
    | false =>
      refine ev_neg Bool.false_ne_true ?_
      exact ih (i + 1) (by omega) acc (by omega)
theorem spec_join : ∀ a : _root_.Fin 16, specF (bitL a.val) nameL ⟨#[]⟩ = senseT a.val := by decide +kernel
theorem spec_SenseNames_eq (a : Nat) (ha : a < 16) : g_spec_SenseNames (a : Int) = some (senseT a) := by
  refine evG_eq ?_
  unfold spec_SenseNames_
  have hok : senseOk (a : Int) = true := by unfold senseOk; exact decide_eq_true (by omega)
  have e := spec_SenseOk_eq (a : Int)
  rw [hok] at e
  have h := spec_SenseNames_loop a ha 4 0 rfl ⟨#[]⟩ (Nat.le_refl _)
  rw [List.drop_zero, List.drop_zero, spec_join ⟨a, ha⟩] at h
  exact ev_bind e (ev_pos rfl h)
/- spec_l01Figure -/
theorem spec_l01Figure_eq (m : Nat) (h : m < 10) : g_spec_l01Figure (m : Int) = some ((48 + m : Nat) : Int) := by
  unfold g_spec_l01Figure spec_l01Figure_
  have c : (m : Int) < 10 := by omega
  simp only [c, if_true]
  have e1 : wrap64 (48 + (m : Int)) = ((48 + m : Nat) : Int) := by
    rw [w64 (by omega) (by omega)]; omega
  have e2 : wr .u8 ((48 + m : Nat) : Int) = ((48 + m : Nat) : Int) := by rw [wr8]; omega
  rw [e1, e2]
/- spec_Decimal -/
theorem bstr_bn (x : Nat) : bstr [(x : Int)] = bn [x] := rfl
theorem Decimal_step (m : Nat) (l : List Nat) (r : ByteArray) (h0 : 0 < m) (hm : m < 10000) (hl : l.length ≤ 100)
    (h : Ev (fun k => spec_Decimal_L5 (fun _ => g_spec_l01Figure) k (((m / 10 : Nat) : Int), false, bn ((48 + m % 10) :: l), ())) r) :
    Ev (fun k => spec_Decimal_L5 (fun _ => g_spec_l01Figure) k ((m : Int), false, bn l, ())) r := by
  refine Ev.step (fun q => by rw [spec_Decimal_L5]) ?_
  have e1 : Int.tmod (m : Int) 10 = ((m % 10 : Nat) : Int) := by
    rw [Int.tmod_eq_emod_of_nonneg (by omega)]; omega
  have e2 : Int.tdiv (m : Int) 10 = ((m / 10 : Nat) : Int) := by
    rw [Int.tdiv_eq_ediv_of_nonneg (by omega)]; omega
  have e3 : wrap64 ((m / 10 : Nat) : Int) = ((m / 10 : Nat) : Int) := w64 (by omega) (by omega)
  have e4 : bstr [((48 + m % 10 : Nat) : Int)] ++ bn l = bn ((48 + m % 10) :: l) := by rw [bstr_bn, bn_append]; rfl
  rw [e1, e2, e3]
  refine ev_neg (by omega) (ev_neg (by omega) (ev_neg (by omega) (ev_bind (spec_l01Figure_eq (m % 10) (by omega)) (ev_pos ?_ (ev_neg (by omega) ?_)))))
  · rw [size_bstr, bn_size]
    simp only [List.length_singleton]
    omega
  · rw [e4]
    exact h
theorem Decimal_end (l : List Nat) : Ev (fun k => spec_Decimal_L5 (fun _ => g_spec_l01Figure) k (((0 : Nat) : Int), false, bn l, ())) (bn l) := by
  refine Ev.step (fun q => by rw [spec_Decimal_L5]) ?_
  exact ev_pos rfl (ev_neg (by simp) ev_some)
theorem spec_Decimal_eq (n : Nat) (hn : n < 10000) : g_spec_Decimal (n : Int) = some (decT n) := by
  refine evG_eq ?_
  unfold spec_Decimal_
  by_cases h0 : n = 0
  · subst h0
    exact ev_pos rfl (ev_eq rfl)
  · have c0 : ¬ (n : Int) = 0 := by omega
    have cf : decide ((n : Int) < 0) = false := decide_eq_false (by omega)
    refine ev_neg c0 ?_
    rw [cf]
    have e0 : (⟨#[]⟩ : ByteArray) = bn [] := rfl
    rw [e0]
    unfold decT decL
    by_cases h1 : n < 10
    · rw [if_pos h1]
      have q1 : n / 10 = 0 := by omega
      have q2 : n % 10 = n := by omega
      refine Decimal_step n [] _ (by omega) hn (by simp) ?_
      rw [q1, q2]
      exact Decimal_end _
    · rw [if_neg h1]
      refine Decimal_step n [] _ (by omega) hn (by simp) ?_
      by_cases h2 : n < 100
      · rw [if_pos h2]
        refine Decimal_step (n / 10) _ _ (by omega) (by omega) (by simp) ?_
        have q1 : n / 10 / 10 = 0 := by omega
        have q2 : n / 10 % 10 = n / 10 := by omega
        rw [q1, q2]
        exact Decimal_end _
      · rw [if_neg h2]
        refine Decimal_step (n / 10) _ _ (by omega) (by omega) (by simp) ?_
        by_cases h3 : n < 1000
        · rw [if_pos h3]
          refine Decimal_step (n / 10 / 10) _ _ (by omega) (by omega) (by simp) ?_
          have q1 : n / 10 / 10 / 10 = 0 := by omega
          have q2 : n / 10 / 10 % 10 = n / 100 := by omega
          rw [q1, q2]
          exact Decimal_end _
        · rw [if_neg h3]
          refine Decimal_step (n / 10 / 10) _ _ (by omega) (by omega) (by simp) ?_
          refine Decimal_step (n / 10 / 10 / 10) _ _ (by omega) (by omega) (by simp) ?_
          have q1 : n / 10 / 10 / 10 / 10 = 0 := by omega
          have q2 : n / 10 / 10 / 10 % 10 = n / 1000 := by omega
          have q3 : n / 10 / 10 % 10 = n / 100 % 10 := by omega
          rw [q1, q2, q3]
          exact Decimal_end _
theorem Decimal_loop : ∀ (n : Nat), 0 < n → n ≤ 10000000000000 → ∀ acc : ByteArray, acc.size + n ≤ 100000000000000 → Ev (fun k => spec_Decimal_L5 (fun _ => g_spec_l01Figure) k ((n : Int), false, acc, ())) (decB n ++ acc) := by
  intro n
  induction n using Nat.strongRecOn with
  | ind n ih =>
    intro h0 hn acc ha
    have e1 : Int.tmod (n : Int) 10 = ((n % 10 : Nat) : Int) := by
      rw [Int.tmod_eq_emod_of_nonneg (by omega)]; omega
    have e2 : Int.tdiv (n : Int) 10 = ((n / 10 : Nat) : Int) := by
      rw [Int.tdiv_eq_ediv_of_nonneg (by omega)]; omega
    have e3 : wrap64 ((n / 10 : Nat) : Int) = ((n / 10 : Nat) : Int) := w64 (by omega) (by omega)
    have hz : (bstr [((48 + n % 10 : Nat) : Int)]).size = 1 := by rw [size_bstr]; rfl
    refine Ev.step (fun q => by rw [spec_Decimal_L5]) ?_
    rw [e1, e2, e3]
    refine ev_neg (by omega) (ev_neg (by omega) (ev_neg (by omega) (ev_bind (spec_l01Figure_eq (n % 10) (by omega)) (ev_pos (by omega) (ev_neg (by omega) ?_)))))
    by_cases h1 : n < 10
    · have q1 : n / 10 = 0 := by omega
      rw [q1, decB_lt h1]
      refine Ev.step (fun q => by rw [spec_Decimal_L5]) ?_
      exact ev_pos rfl (ev_neg (by simp) ev_some)
    · rw [decB_ge h1]
      exact ih (n / 10) (by omega) (by omega) (by omega) _ (by rw [size_append, hz]; omega)
theorem spec_Decimal_big (n : Nat) (hn : n ≤ 10000000000000) : g_spec_Decimal (n : Int) = some (decB n) := by
  refine evG_eq ?_
  unfold spec_Decimal_
  by_cases h0 : n = 0
  · subst h0
    refine ev_pos rfl (ev_eq ?_)
    unfold decB
    rw [Go.Lib.decDigits, dif_pos (by decide)]
    rfl
  · have cf : decide ((n : Int) < 0) = false := decide_eq_false (by omega)
    refine ev_neg (by omega) ?_
    rw [cf]
    have h := Decimal_loop n (by omega) hn ⟨#[]⟩ (by show 0 + n ≤ _; omega)
    have e : decB n ++ (⟨#[]⟩ : ByteArray) = decB n := by
      apply ba_ext
      rw [bl_append, bl_empty, List.append_nil]
    rw [e] at h
    exact h
/- spec_MenuOk -/
theorem spec_MenuOk_eq (a : Int) (b : Bool) (n d : Int) (s : ByteArray) (hs : s.size ≤ 1048580) : g_spec_MenuOk (a, b, n, d, s) = some (menuOk (a, b, n, d, s)) := by
  refine evG_eq ?_
  show Ev _ (decide (MenuOkP a b n d s))
  unfold spec_MenuOk_
  have hloop : Ev (fun k => spec_MenuOk_L4 (fun _ => g_spec_l01In) k (0, a, b, n, d, s, ())) (digitsOk (bl s) && decide (a = 1 → s.size = 0 ∧ b = false ∧ n = 0 ∧ d = 0)) := by
    refine bytes_loop s (fun k (_ : Unit) i => spec_MenuOk_L4 (fun _ => g_spec_l01In) k (i, a, b, n, d, s, ())) (fun r _ => digitsOk r && decide (a = 1 → s.size = 0 ∧ b = false ∧ n = 0 ∧ d = 0)) (fun _ => ?_) (fun i _ x rest hx hi h => ?_) ()
    · refine Ev.step (fun q => by rw [spec_MenuOk_L4]) ?_
      refine ev_neg (by omega) (ev_eq ?_)
      show _ = some (digitsOk [] && _)
      rw [show digitsOk [] = true from rfl, Bool.true_and]
      simp only [eq_empty]
      cases b with
      | false =>
        repeat' refine ite_r (fun _ => ?_) (fun _ => ?_)
        all_goals first
          | exact absurd (by assumption) Bool.false_ne_true
          | exact dec_yes (fun q => by first | (exfalso; omega) | exact ⟨by omega, rfl, by omega, by omega⟩)
          | exact dec_no (fun q => by have := q (by omega); omega)
          | (refine eq_dec ?_; rw [decide_eq_true_iff]; exact ⟨fun h q => ⟨by omega, rfl, by omega, h⟩, fun q => (q (by omega)).2.2.2⟩)
      | true =>
        repeat' refine ite_r (fun _ => ?_) (fun _ => ?_)
        all_goals first
          | exact absurd rfl (by assumption)
          | exact dec_yes (fun q => by exfalso; omega)
          | exact dec_no (fun q => by have := (q (by omega)).2.1; cases this)
    · refine Ev.step (fun q => by rw [spec_MenuOk_L4]) ?_
      refine ev_pos (by omega) (ev_pos (by omega) (ev_pos (by omega) ?_))
      rw [byt_drop hx, w64_succ (by omega)]
      by_cases h1 : (x.toNat : Int) < 48
      · refine ev_pos h1 (Ev.cast ev_some ?_)
        rw [digitsOk_cons, decide_eq_false (p := 48 ≤ (x.toNat : Int) ∧ (x.toNat : Int) ≤ 57) (by omega)]; rfl
      · refine ev_neg h1 (ev_pos (by omega) (ev_pos (by omega) ?_))
        by_cases h2 : 57 < (x.toNat : Int)
        · refine ev_pos h2 (Ev.cast ev_some ?_)
          rw [digitsOk_cons, decide_eq_false (p := 48 ≤ (x.toNat : Int) ∧ (x.toNat : Int) ≤ 57) (by omega)]; rfl
        · refine ev_neg h2 (Ev.cast (h ()) ?_)
          rw [digitsOk_cons, decide_eq_true (p := 48 ≤ (x.toNat : Int) ∧ (x.toNat : Int) ≤ 57) (by omega), Bool.true_and]
  have no : ¬ ((1 ≤ a ∧ a ≤ 4) ∧ (0 ≤ n ∧ n ≤ 9999) ∧ (0 ≤ d ∧ d ≤ 9999) ∧ s.size ≤ 4) → false = decide (MenuOkP a b n d s) := fun h => by
    rw [decide_eq_false]
    unfold MenuOkP
    exact fun q => h ⟨q.2.1, q.2.2.1, q.2.2.2.1, q.2.2.2.2.1⟩
  refine ev_bind (spec_l01In_eq _ _ _) (ev_dom (fun h1 => ?_) (fun h1 => Ev.cast ev_some (no fun q => h1 (decide_eq_true q.1))))
  refine ev_bind (spec_l01In_eq _ _ _) (ev_dom (fun h2 => ?_) (fun h2 => Ev.cast ev_some (no fun q => h2 (decide_eq_true q.2.1))))
  refine ev_bind (spec_l01In_eq _ _ _) (ev_dom (fun h3 => ?_) (fun h3 => Ev.cast ev_some (no fun q => h3 (decide_eq_true q.2.2.1))))
  refine ev_dom (fun h4 => Ev.cast ev_some (no fun q => by omega)) (fun h4 => Ev.cast hloop ?_)
  rw [decide_eq_true_iff] at h1 h2 h3
  rw [Bool.eq_iff_iff]
  refine Iff.trans ?_ decide_eq_true_iff.symm
  rw [Bool.and_eq_true, decide_eq_true_iff]
  unfold MenuOkP
  constructor
  · rintro ⟨q1, q2⟩; exact ⟨q1, h1, h2, h3, by omega, q2⟩
  · rintro ⟨q1, _, _, _, _, q2⟩; exact ⟨q1, q2⟩
/- spec_l16Sum -/
theorem spec_l16Sum_eq (l : List Int) (hl : l.length ≤ 9223372036854775806) : g_spec_l16Sum l = some (wrap64 l.sum) := by
  refine evG_eq ?_
  unfold spec_l16Sum_
  refine Ev.congr (g := fun k => spec_l16Sum_L3 k (wrap64 0, ((0 : Nat) : Int), l, ())) (fun k => by rw [w64 (n := 0) (by omega) (by omega)]; rfl) ?_
  refine Ev.cast (list_loop l (fun k s i => spec_l16Sum_L3 k (wrap64 s, i, l, ())) (fun r s => wrap64 (s + r.sum)) (fun s => ?_) (fun i s x rest hx hi h => ?_) 0 (by omega) 0) (by simp)
  · refine Ev.step (fun q => by rw [spec_l16Sum_L3]) ?_
    exact ev_neg (by omega) (Ev.cast ev_some (by simp))
  · refine Ev.step (fun q => by rw [spec_l16Sum_L3]) ?_
    refine ev_pos (by omega) (ev_pos (by omega) (ev_pos (by omega) ?_))
    rw [getD_drop hx, w64_succ (by omega), wrap64_add]
    refine Ev.cast (h (s + x)) ?_
    simp [Int.add_assoc]
/- spec_GuardOk -/
theorem spec_GuardOk_eq (l : List Int) (a : Int) (hl : l.length ≤ 9223372036854775806) : g_spec_GuardOk (l, a) = some (guardOk l a) := by
  refine evG_eq ?_
  have hloop : l.length ≤ 9 → Ev (fun k => spec_GuardOk_L4 (fun _ => g_spec_SenseOk) (fun _ => g_spec_l01In) (fun _ => g_spec_l16Sum) k (0, l, a, ())) (pastOk l && decide (l.sum ≤ 30)) := by
    intro h9
    have hend : Ev (fun k => spec_GuardOk_L4 (fun _ => g_spec_SenseOk) (fun _ => g_spec_l01In) (fun _ => g_spec_l16Sum) k ((l.length : Int), l, a, ())) (decide (wrap64 l.sum ≤ 30)) := by
      refine Ev.step (fun q => by rw [spec_GuardOk_L4]) ?_
      exact ev_neg (by omega) (ev_bind (spec_l16Sum_eq l hl) ev_some)
    refine Ev.cast (list_loop l (fun k (_ : Unit) i => spec_GuardOk_L4 (fun _ => g_spec_SenseOk) (fun _ => g_spec_l01In) (fun _ => g_spec_l16Sum) k (i, l, a, ())) (fun r _ => pastOk r && decide (wrap64 l.sum ≤ 30)) (fun _ => Ev.cast hend (by simp [pastOk])) (fun i _ x rest hx hi h => ?_) 0 (by omega) ()) ?_
    · refine Ev.step (fun q => by rw [spec_GuardOk_L4]) ?_
      refine ev_pos (by omega) (ev_pos (by omega) (ev_pos (by omega) ?_))
      rw [getD_drop hx, spec_l01In_eq, w64_succ (by omega)]
      simp only [Option.bind_some, decide_eq_true_eq]
      by_cases hx2 : 0 ≤ x ∧ x ≤ 30
      · refine ev_pos hx2 (Ev.cast (h ()) ?_)
        rw [pastOk_cons]; simp [hx2]
      · refine ev_neg hx2 (Ev.cast ev_some ?_)
        rw [pastOk_cons]; simp [hx2]
    · simp only [List.drop_zero]
      cases hp : pastOk l with
      | true =>
        have hs := pastOk_sum hp
        rw [w64 (by omega) (by omega)]
      | false => rfl
  unfold spec_GuardOk_
  by_cases h9 : 9 < (l.length : Int)
  · refine ev_pos h9 (Ev.cast ev_some ?_)
    have h9' : ¬ l.length ≤ 9 := by omega
    simp [guardOk, h9']
  · refine ev_neg h9 (ev_bind (spec_SenseOk_eq a) ?_)
    have h9' : l.length ≤ 9 := by omega
    cases hs : senseOk a with
    | false => exact ev_neg Bool.false_ne_true (Ev.cast ev_some (by simp [guardOk, hs]))
    | true =>
      refine ev_pos rfl (Ev.cast (hloop h9') ?_)
      simp [guardOk, hs, h9']
/- spec_RateOk -/
theorem spec_RateOk_eq (n d r : Int) : g_spec_RateOk (n, d, r) = some (rateOk n d r) := by
  unfold g_spec_RateOk spec_RateOk_ rateOk
  simp only [spec_l01In_eq, Option.bind_some, decide_eq_true_eq]
  by_cases h1 : 0 ≤ n ∧ n ≤ 1000000
  · by_cases h2 : 1 ≤ d ∧ d ≤ 1000000
    · rw [if_pos h1, if_pos h2, w64 (by omega) (by omega)]
      refine eq_dec ?_
      rw [decide_eq_true_iff]; unfold RateOkP; omega
    · rw [if_pos h1, if_neg h2]; exact dec_no (by unfold RateOkP; omega)
  · rw [if_neg h1]; exact dec_no (by unfold RateOkP; omega)
/- spec_PumpOk -/
theorem spec_PumpOk_eq (p : Pump) : g_spec_PumpOk p = some (pumpOk p) := by
  obtain ⟨s, n, d, r, l, b, g, k⟩ := p
  show _ = some (decide (PumpOkP s n d r l b g k))
  unfold g_spec_PumpOk spec_PumpOk_
  simp only [spec_l01In_eq, spec_RateOk_eq, Option.bind_some, decide_eq_true_eq, rateOk, beq_iff_eq, Bool.true_eq, Bool.false_eq, decide_eq_false_iff_not, decide_eq_decide]
  by_cases h : RateOkP n d r
  · have hw : wrap64 (3 * d) = 3 * d := by unfold RateOkP at h; exact w64 (by omega) (by omega)
    rw [hw]
    have h0 := h
    unfold RateOkP at h
    repeat' refine ite_r (fun _ => ?_) (fun _ => ?_)
    all_goals first
      | exact absurd h0 (by assumption)
      | exact dec_no (by unfold PumpOkP RateOkP; omega)
      | exact dec_yes (by unfold PumpOkP RateOkP; omega)
      | (refine eq_dec ?_; rw [decide_eq_true_iff]; unfold PumpOkP RateOkP; omega)
  · simp only [h, if_false]
    repeat' refine ite_r (fun _ => ?_) (fun _ => ?_)
    all_goals exact dec_no (by unfold PumpOkP; exact fun q => h q.2.1)
/- spec_DeviceOk -/
theorem spec_DeviceOk_eq (p : Pump) (past : List Int) (alarm : Int) (m : Menu) (ts : List Tick) (ref : Int) (h1 : past.length ≤ 9223372036854775806) (h2 : m.2.2.2.2.size ≤ 1048580) : g_spec_DeviceOk (dev p past alarm m ts ref) = some (deviceOk p past alarm m ts ref) := by
  obtain ⟨s, n, e, r, l, b, g, k⟩ := p
  obtain ⟨a, bo, nu, de, di⟩ := m
  unfold g_spec_DeviceOk spec_DeviceOk_ dev deviceOk
  simp only [spec_PumpOk_eq, spec_GuardOk_eq past alarm h1, spec_MenuOk_eq a bo nu de di h2, spec_l01In_eq, Option.bind_some]
  cases pumpOk (s, n, e, r, l, b, g, k) with
  | false => simp
  | true =>
    cases guardOk past alarm with
    | false => simp
    | true =>
      cases menuOk (a, bo, nu, de, di) with
      | false => simp
      | true =>
        simp only [if_true, Bool.true_and]
        by_cases h : (ts.length : Int) ≤ 200
        · rw [if_pos h, decide_eq_true (show ts.length ≤ 200 by omega), Bool.true_and]
        · rw [if_neg h, decide_eq_false (show ¬ ts.length ≤ 200 by omega), Bool.false_and]
/- spec_ShowDevice -/
-- needs: impl_ShowDevice spec_SenseNames spec_Decimal spec_DeviceOk
theorem spec_ShowDevice_ok {p : Pump} {past : List Int} {alarm : Int} {m : Menu} {ts : List Tick} {ref : Int} {s g l a : Nat} (e : g_spec_DeviceOk (dev p past alarm m ts ref) = some true) (h1 : p.1 = (s : Int)) (h2 : p.2.2.2.2.2.2.1 = (g : Int)) (h3 : p.2.2.2.2.1 = (l : Int)) (h4 : alarm = (a : Int)) (b1 : s ≤ 10000000000000) (b2 : g ≤ 10000000000000) (b3 : l ≤ 10000000000000) (b4 : a < 16) :
    g_spec_ShowDevice (dev p past alarm m ts ref) = some (showX s g l a) := by
  have e1 : g_spec_Decimal p.1 = some (decB s) := by rw [h1]; exact spec_Decimal_big s b1
  have e2 : g_spec_Decimal p.2.2.2.2.2.2.1 = some (decB g) := by rw [h2]; exact spec_Decimal_big g b2
  have e3 : g_spec_Decimal p.2.2.2.2.1 = some (decB l) := by rw [h3]; exact spec_Decimal_big l b3
  have e4 : g_spec_SenseNames alarm = some (senseT a) := by rw [h4]; exact spec_SenseNames_eq a b4
  have z1 := decB_size s
  have z2 := decB_size g
  have z3 := decB_size l
  have z4 := senseT_size ⟨a, b4⟩
  have z4 : (senseT a).size ≤ 100 := z4
  have y1 : (⟨#[115, 116, 97, 116, 101, 32]⟩ : ByteArray).size = 6 := rfl
  have y2 : (⟨#[32, 103, 105, 118, 101, 110, 32]⟩ : ByteArray).size = 7 := rfl
  have y3 : (⟨#[32, 108, 101, 102, 116, 32]⟩ : ByteArray).size = 6 := rfl
  have y4 : (⟨#[32, 97, 108, 97, 114, 109, 32]⟩ : ByteArray).size = 7 := rfl
  have y5 : (⟨#[10]⟩ : ByteArray).size = 1 := rfl
  unfold showX
  clear h1 h2 h3 h4
  unfold g_spec_ShowDevice spec_ShowDevice_
  exact bind_eq e ((if_pos rfl).trans (bind_eq e1 ((if_pos (by omega)).trans ((if_pos (by simp only [size_append]; omega)).trans (bind_eq e2 ((if_pos (by simp only [size_append]; omega)).trans ((if_pos (by simp only [size_append]; omega)).trans (bind_eq e3 ((if_pos (by simp only [size_append]; omega)).trans ((if_pos (by simp only [size_append]; omega)).trans (bind_eq e4 ((if_pos (by simp only [size_append]; omega)).trans ((if_pos (by simp only [size_append]; omega)).trans rfl)))))))))))))
/- laws_szTickS -/
theorem laws_szTickS_eq (l : List Tick) (hl : l.length ≤ maxLen) (a : Int) (ha : 0 ≤ a ∧ a ≤ 1048576) : g_laws_szTickS (l, a) = some (if (l.length : Int) ≤ a then a - (l.length : Int) else -1) := by
  rw [maxLen_eq] at hl
  unfold g_laws_szTickS laws_szTickS_
  simp only []
  rw [w64 (by omega) (by omega)]
  by_cases h : (l.length : Int) ≤ a
  · rw [if_neg (by omega), if_pos h]
  · rw [if_pos (by omega), if_neg h]
/- laws_szMenu -/
theorem laws_szMenu_eq (m : Menu) (z : Int) (hs : m.2.2.2.2.size ≤ maxLen) (hz : 0 ≤ z ∧ z ≤ 1048576) : g_laws_szMenu (m, z) = some (if (m.2.2.2.2.size : Int) ≤ z then z - (m.2.2.2.2.size : Int) else -1) := by
  obtain ⟨a, b, n, d, s⟩ := m
  rw [maxLen_eq] at hs
  unfold g_laws_szMenu laws_szMenu_
  simp only [] at hs ⊢
  rw [w64 (by omega) (by omega)]
  by_cases h : (s.size : Int) ≤ z
  · rw [if_neg (by omega), if_pos h]
  · rw [if_pos (by omega), if_neg h]
/- laws_szIntS -/
theorem laws_szIntS_eq (l : List Int) (hl : l.length ≤ maxLen) (a : Int) (ha : 0 ≤ a ∧ a ≤ 1048576) : g_laws_szIntS (l, a) = some (if (l.length : Int) ≤ a then a - (l.length : Int) else -1) := by
  rw [maxLen_eq] at hl
  unfold g_laws_szIntS laws_szIntS_
  simp only []
  rw [w64 (by omega) (by omega)]
  by_cases h : (l.length : Int) ≤ a
  · rw [if_neg (by omega), if_pos h]
  · rw [if_pos (by omega), if_neg h]
/- laws_szGuard -/
theorem laws_szGuard_eq (l : List Int) (b : Int) (hl : l.length ≤ maxLen) (a : Int) (ha : 0 ≤ a ∧ a ≤ 1048576) : g_laws_szGuard ((l, b), a) = some (if (l.length : Int) ≤ a then a - (l.length : Int) else -1) := by
  unfold g_laws_szGuard laws_szGuard_
  simp only [laws_szIntS_eq l hl a ha, Option.bind_some]
  by_cases h : (l.length : Int) ≤ a
  · rw [if_pos h, if_neg (by omega)]
  · rw [if_neg h, if_pos (by omega)]
/- laws_szDevice -/
theorem laws_szDevice_eq (d : Device) (h1 : d.2.2.2.2.2.2.2.2.1.length ≤ maxLen) (h2 : d.2.2.2.2.2.2.2.2.2.2.2.2.2.2.1.size ≤ maxLen) (h3 : d.2.2.2.2.2.2.2.2.2.2.2.2.2.2.2.1.length ≤ maxLen) :
    ∃ q, g_laws_szDevice (d, 1048576) = some q ∧ (q < 0 ∨ (Short d ∧ 0 ≤ q ∧ q ≤ 1048576)) := by
  obtain ⟨s, n, e, r, l, b, g, k, past, alarm, a, bo, nu, de, di, ts, ref⟩ := d
  unfold g_laws_szDevice laws_szDevice_
  simp only [laws_szGuard_eq past alarm h1 1048576 (by omega), Option.bind_some]
  simp only [] at h1 h2 h3
  by_cases c1 : (past.length : Int) ≤ 1048576
  · rw [if_pos c1, if_neg (by omega)]
    simp only [laws_szMenu_eq (a, bo, nu, de, di) (1048576 - (past.length : Int)) h2 (by omega), Option.bind_some]
    by_cases c2 : (di.size : Int) ≤ 1048576 - (past.length : Int)
    · rw [if_pos c2, if_neg (by omega)]
      simp only [laws_szTickS_eq ts h3 (1048576 - (past.length : Int) - (di.size : Int)) (by omega), Option.bind_some]
      by_cases c3 : (ts.length : Int) ≤ 1048576 - (past.length : Int) - (di.size : Int)
      · rw [if_pos c3, if_neg (by omega)]
        exact ⟨_, rfl, .inr ⟨⟨by show past.length ≤ _; omega, by show di.size ≤ _; omega, by show ts.length ≤ _; omega⟩, by omega, by omega⟩⟩
      · rw [if_neg c3, if_pos (by omega)]
        exact ⟨_, rfl, .inl (by omega)⟩
    · rw [if_neg c2, if_pos (by omega)]
      exact ⟨_, rfl, .inl (by omega)⟩
  · rw [if_neg c1, if_pos (by omega)]
    exact ⟨_, rfl, .inl (by omega)⟩
/- laws_FnExactShowDevice -/
-- @hx
theorem t_FnExactShowDevice (x : Device) (hx : AKs.good [.agg [.int .i64, .int .i64, .int .i64, .int .i64, .int .i64, .int .i64, .int .i64, .int .i64, .sl (.int .i64), .int .i64, .int .i64, .bool, .int .i64, .int .i64, .str, .sl (.pair (.int .i64) (.pair (.int .i64) (.int .i64))), .int .i64]] x) : g_laws_FnExactShowDevice x = some true := by
  have q1 : x.2.2.2.2.2.2.2.2.1.length ≤ maxLen := hx.2.2.2.2.2.2.2.2.1.1
  have q2 : x.2.2.2.2.2.2.2.2.2.2.2.2.2.2.1.size ≤ maxLen := hx.2.2.2.2.2.2.2.2.2.2.2.2.2.2.1
  have q3 : x.2.2.2.2.2.2.2.2.2.2.2.2.2.2.2.1.length ≤ maxLen := hx.2.2.2.2.2.2.2.2.2.2.2.2.2.2.2.1.1
  obtain ⟨q, hq, h⟩ := laws_szDevice_eq x q1 q2 q3
  obtain ⟨p, past, alarm, m, ts, ref, rfl⟩ := dev_eta x
  unfold g_laws_FnExactShowDevice laws_FnExactShowDevice_
  show ((g_laws_szDevice (dev p past alarm m ts ref, 1048576)).bind fun v0 => if v0 < 0 then some true else
   (g_laws_toDevice (dev p past alarm m ts ref)).bind fun v1 => (g_spec_ShowDevice v1).bind fun v2 => (g_laws_toDevice (dev p past alarm m ts ref)).bind fun v3 => (g_impl_ShowDevice v3).bind fun v4 =>
   if v4 = v2 then (g_laws_toDevice (dev p past alarm m ts ref)).bind fun v5 => (g_laws_eqDevice (v3, v5)).bind fun v6 => if v6 = true then some true else some false else some false) = some true
  rw [hq, Option.bind_some]
  rcases h with h | ⟨hs, h0, _⟩
  · rw [if_pos h]
  · rw [if_neg (by omega)]
    obtain ⟨s1, s2, s3⟩ := hs
    have e1 := laws_toDevice_eq (dev p past alarm m ts ref) ⟨s1, s2, s3⟩
    have b1 : past.length ≤ 1048576 := s1
    have b2 : m.2.2.2.2.size ≤ 1048576 := s2
    have e2 := spec_DeviceOk_eq p past alarm m ts ref (by omega) (by omega)
    have e3 := impl_DeviceOk_eq p past alarm m ts ref (by omega) (by omega)
    have b3 : ts.length ≤ 1048576 := s3
    have e4 := laws_eqDevice_refl (dev p past alarm m ts ref) (by show past.length ≤ _; omega) (by show ts.length ≤ _; omega)
    obtain ⟨X, f1, f2⟩ : ∃ X, g_impl_ShowDevice (dev p past alarm m ts ref) = some X ∧ g_spec_ShowDevice (dev p past alarm m ts ref) = some X := by
      cases hd : deviceOk p past alarm m ts ref with
      | true =>
        rw [hd] at e2 e3
        obtain ⟨s, g, l, a, r1, r2, r3, r4, r5, r6, r7, r8⟩ := show_nums hd
        exact ⟨_, impl_ShowDevice_ok e3 r1 r2 r3 r4 r5 r6 r7 r8, spec_ShowDevice_ok e2 r1 r2 r3 r4 r5 r6 r7 r8⟩
      | false =>
        rw [hd] at e2 e3
        refine ⟨⟨#[]⟩, ?_, ?_⟩
        · unfold g_impl_ShowDevice impl_ShowDevice_
          exact bind_eq e3 (if_neg Bool.false_ne_true)
        · unfold g_spec_ShowDevice spec_ShowDevice_
          exact bind_eq e2 (if_neg Bool.false_ne_true)
    simp only [e1, f1, f2, e4, Option.bind_some, if_true]
end Go.Sx.T
