/- Functions of the program as functions of Lean, and that the program keeps to them. -/
import Derived.Test.YtogagfoikapbpaaDoorFnExactReadScriptA0
set_option maxRecDepth 100000
set_option linter.unusedVariables false
set_option linter.unusedSimpArgs false
namespace Go.Proofs
end Go.Proofs
namespace Go.Sx.T
open Go Go.Sx Go.Proofs Go.RowKit
/- laws_markText -/
theorem markText_loop : ∀ (f n : Nat), n < 10 ^ f → n ≤ 9000000000000000000 → ∀ (b : ByteArray), b.size + f ≤ 1000 → ∃ v, Ev (fun k => laws_markText_L4 k ((n : Int), b, ())) v
  | 0, n, hn, _, b, hb => by
    have e : n = 0 := by simpa using hn
    subst e
    refine ⟨(⟨#[109]⟩ : ByteArray) ++ b, Ev.step (fun w => by rw [laws_markText_L4]) ?_⟩
    refine ev_neg (by omega) (ev_pos ?_ ev_some)
    have : (⟨#[109]⟩ : ByteArray).size = 1 := rfl
    omega
  | f + 1, n, hn, hbig, b, hb => by
    have hz : (bstr [(wr .u8 (wrap64 (48 + (Int.tmod (n : Int) 10))))]).size = 1 := by rw [size_bstr]; rfl
    by_cases h0 : 0 < n
    · have hn2 : n / 10 < 10 ^ f := by
        rw [Nat.div_lt_iff_lt_mul (by omega)]
        rw [Nat.pow_succ] at hn
        exact hn
      have e : wrap64 (Int.tdiv (n : Int) 10) = ((n / 10 : Nat) : Int) := by
        have : Int.tdiv (n : Int) 10 = ((n / 10 : Nat) : Int) := by
          rw [Int.tdiv_eq_ediv_of_nonneg (by omega)]; omega
        rw [this]
        exact w64 (by omega) (by omega)
      clear hn
      obtain ⟨v, hv⟩ := markText_loop f (n / 10) hn2 (by omega) (bstr [(wr .u8 (wrap64 (48 + (Int.tmod (n : Int) 10))))] ++ b) (by rw [size_append, hz]; omega)
      clear hn2
      refine ⟨v, Ev.step (fun w => by rw [laws_markText_L4]) ?_⟩
      rw [e]
      refine ev_pos (by omega) (ev_neg (by omega) (ev_pos ?_ (ev_neg (by omega) hv)))
      rw [hz]; omega
    · refine ⟨(⟨#[109]⟩ : ByteArray) ++ b, Ev.step (fun w => by rw [laws_markText_L4]) ?_⟩
      clear hn
      refine ev_neg (by omega) (ev_pos ?_ ev_some)
      have : (⟨#[109]⟩ : ByteArray).size = 1 := rfl
      omega
theorem laws_markText_some (k : Int) (hk : 0 ≤ k ∧ k ≤ 1000000000) : ∃ v, g_laws_markText k = some v := by
  by_cases h : k ≤ 0
  · refine ⟨⟨#[109, 48]⟩, evG_eq ?_⟩
    unfold laws_markText_
    exact ev_pos h ev_some
  · obtain ⟨n, rfl⟩ := Int.eq_ofNat_of_zero_le hk.1
    have hp : n < 10 ^ 10 := by
      have : (10 : Nat) ^ 10 = 10000000000 := rfl
      omega
    obtain ⟨v, hv⟩ := markText_loop 10 n hp (by omega) ⟨#[]⟩ (by rw [size_empty]; omega)
    refine ⟨v, evG_eq ?_⟩
    unfold laws_markText_
    exact ev_neg h hv
/- laws_heldInS -/
-- needs: laws_markText
noncomputable def mtx (k : Int) : ByteArray := (g_laws_markText k).getD ⟨#[]⟩
theorem mtx_eq (k : Int) (hk : 0 ≤ k ∧ k ≤ 1000000000) : g_laws_markText k = some (mtx k) := by
  obtain ⟨v, hv⟩ := laws_markText_some k hk
  unfold mtx
  rw [hv]
  rfl
noncomputable def markI (m : Int) (i : Nat) : In := (m + 3 * (i : Int), mtx (m + 3 * (i : Int) + 1), mtx (m + 3 * (i : Int) + 2))
noncomputable def marksI (m : Int) (n : Nat) : List In := (List.range n).map (markI m)
theorem marksI_length (m : Int) (n : Nat) : (marksI m n).length = n := by simp [marksI]
theorem marksI_get (m : Int) {n i : Nat} (h : i < n) : (marksI m n)[i]'(by rw [marksI_length]; exact h) = markI m i := by simp [marksI]
theorem laws_heldInS_eq (n : Nat) (k : Int) (hn : n ≤ 2000000) (hk : 0 ≤ k ∧ k ≤ 100000000) : g_laws_heldInS (marksI k n, k) = some (k + 3 * (n : Int)) := by
  refine evG_eq ?_
  unfold laws_heldInS_
  have hlen := marksI_length k n
  have key : ∀ (d j : Nat), j + d = n → Ev (fun q => laws_heldInS_L2 (fun _ => g_laws_markText) q (k + 3 * (j : Int), (j : Int), marksI k n, ())) (k + 3 * (n : Int)) := by
    intro d
    induction d with
    | zero =>
      intro j hj
      have e : j = n := by omega
      subst e
      exact Ev.step (fun w => by rw [laws_heldInS_L2]) (ev_neg (by omega) ev_some)
    | succ d ih =>
      intro j hj
      have hlt : j < (marksI k n).length := by omega
      obtain ⟨e1, e2, e3, _⟩ := w3 (k := k + 3 * (j : Int)) (by omega) (by omega)
      refine Ev.step (fun w => by rw [laws_heldInS_L2]) ?_
      rw [getD_lt hlt, marksI_get k (by omega), w64_succ (by omega), e3, e2, e1]
      have := ih (j + 1) (by omega)
      rw [show k + 3 * ((j + 1 : Nat) : Int) = k + 3 * (j : Int) + 3 by omega] at this
      exact ev_pos (by omega) (ev_pos (by omega) (ev_pos (by omega) (ev_pos rfl (ev_pos (by omega) (ev_pos (by omega) (ev_bind (mtx_eq _ (by omega)) (ev_pos rfl (ev_pos (by omega) (ev_pos (by omega) (ev_bind (mtx_eq _ (by omega)) (ev_pos rfl this)))))))))))
  have := key n 0 (by omega)
  rw [show k + 3 * ((0 : Nat) : Int) = k by omega] at this
  exact this
theorem laws_markInS_eq (l : List In) (hl : l.length ≤ 2000000) : g_laws_markInS (l, 1) = some (1 + 3 * (l.length : Int), marksI 1 l.length) := by
  refine evG_eq ?_
  unfold laws_markInS_
  have key : ∀ (d j : Nat), j + d = l.length → ∀ out : List In, out = filled (markI 1) l j → Ev (fun n => laws_markInS_L2 (fun _ => g_laws_markText) n (1 + 3 * (j : Int), (j : Int), out, ())) (1 + 3 * (l.length : Int), marksI 1 l.length) := by
    intro d
    induction d with
    | zero =>
      intro j hj out ho
      have e : j = l.length := by omega
      subst e
      have hlen : out.length = l.length := by rw [ho]; exact filled_len _ _ (by omega)
      refine Ev.step (fun w => by rw [laws_markInS_L2]) (ev_neg (by omega) (ev_eq ?_))
      rw [ho, filled_all]
      rfl
    | succ d ih =>
      intro j hj out ho
      have hlen : out.length = l.length := by rw [ho]; exact filled_len _ _ (by omega)
      have hlt : j < out.length := by omega
      obtain ⟨e1, e2, e3, _⟩ := w3 (k := 1 + 3 * (j : Int)) (by omega) (by omega)
      refine Ev.step (fun w => by rw [laws_markInS_L2]) ?_
      rw [w64_succ (by omega), e3, e2, e1]
      simp only [Int.toNat_natCast, List.set_set, getD_set_self hlt, List.length_set]
      have := ih (j + 1) (by omega) (out.set j (markI 1 j)) (by rw [ho]; exact filled_set (markI 1) _ (by omega))
      rw [show 1 + 3 * ((j + 1 : Nat) : Int) = 1 + 3 * (j : Int) + 3 by omega] at this
      exact ev_pos (by omega) (ev_pos (by omega) (ev_pos (by omega) (ev_bind (mtx_eq _ (by omega)) (ev_pos (by omega) (ev_pos (by omega) (ev_bind (mtx_eq _ (by omega)) (ev_pos (by omega) (ev_pos (by omega) this))))))))
  have := key l.length 0 (by omega) l rfl
  rw [show 1 + 3 * ((0 : Nat) : Int) = 1 by omega] at this
  exact this
/- laws_eqIn -/
theorem laws_eqIn_refl (i : In) : g_laws_eqIn (i, i) = some true := by
  obtain ⟨a, b, c⟩ := i
  unfold g_laws_eqIn laws_eqIn_
  simp
/- laws_eqInS -/
theorem laws_eqInS_refl (l : List In) (hl : l.length ≤ 9223372036854775806) : g_laws_eqInS (l, l) = some true := by
  refine evG_eq ?_
  unfold laws_eqInS_
  refine ev_pos rfl ?_
  refine list_loop l (fun k (_ : Unit) i => laws_eqInS_L4 (fun _ => g_laws_eqIn) k (i, l, l, ())) (fun _ _ => true) (fun _ => ?_) (fun i _ x rest hx hi h => ?_) 0 (by omega) ()
  · refine Ev.step (fun q => by rw [laws_eqInS_L4]) ?_
    exact ev_neg (by omega) ev_some
  · refine Ev.step (fun q => by rw [laws_eqInS_L4]) ?_
    refine ev_pos (by omega) (ev_pos (by omega) (ev_pos (by omega) (ev_pos (by omega) (ev_pos (by omega) (ev_bind (laws_eqIn_refl _) (ev_pos rfl ?_))))))
    rw [w64_succ (by omega)]
    exact h ()
/- impl_within -/
theorem impl_within_eq (a b c : Int) : g_impl_within (a, b, c) = some (decide (b ≤ a ∧ a ≤ c)) := by
  show (if b ≤ a then some (decide (a ≤ c)) else some false) = _
  split
  · rename_i h; refine eq_dec ?_; rw [decide_eq_true_iff]; omega
  · rename_i h; exact dec_no (by omega)
/- impl_SenseOk -/
theorem impl_SenseOk_eq (a : Int) : g_impl_SenseOk a = some (senseOk a) := by
  unfold g_impl_SenseOk impl_SenseOk_
  simp only [impl_within_eq, Option.bind_some]; rfl
/- impl_InOk -/
theorem impl_InOk_eq (i : In) : g_impl_InOk i = some (inOk i) := by
  obtain ⟨a, s, t⟩ := i
  unfold g_impl_InOk impl_InOk_ inOk
  simp only [impl_SenseOk_eq, Option.bind_some]
  cases senseOk a with
  | false => simp
  | true =>
    by_cases h : s.size ≤ 20
    · have c : ((s.size : Nat) : Int) ≤ 20 := by omega
      rw [if_pos rfl, if_pos c, decide_eq_true h]
      congr 1
      simp only [Bool.true_and]
      congr 1
      rw [eq_iff_iff]
      omega
    · have c : ¬ ((s.size : Nat) : Int) ≤ 20 := by omega
      rw [if_pos rfl, if_neg c, decide_eq_false h]
      rfl
/- impl_Unhex -/
def toI (l : List UInt8) : List Int := l.map fun x => (x.toNat : Int)
theorem bstr_toI (l : List UInt8) : bstr (toI l) = ofL l := by
  apply ba_ext
  rw [bl_ofL, bl_bstr]
  unfold toI
  rw [List.map_map]
  conv => rhs; rw [← List.map_id l]
  apply List.map_congr_left
  intro x _
  simp
theorem toI_app (l : List UInt8) (x : UInt8) : toI l ++ [(x.toNat : Int)] = toI (l ++ [x]) := by simp [toI]
theorem toI_len (l : List UInt8) : (toI l).length = l.length := by simp [toI]
def hexB (a b : UInt8) : UInt8 := UInt8.ofNat (16 * hexV a + hexV b).toNat
theorem hexB_wr {a b : UInt8} (ha : 0 ≤ hexV a) (hb : 0 ≤ hexV b) : wr .u8 (wrap64 (wrap64 (16 * hexV a) + hexV b)) = ((hexB a b).toNat : Int) := by
  have h1 := hexV_range a
  have h2 := hexV_range b
  unfold hexB
  generalize hexV a = x at *
  generalize hexV b = y at *
  have e1 : wrap64 (16 * x) = 16 * x := w64 (by omega) (by omega)
  have e2 : wrap64 (16 * x + y) = 16 * x + y := w64 (by omega) (by omega)
  rw [e1, e2, wr8, UInt8.toNat_ofNat']
  omega
/-- Pairs from a place on. -/
theorem drop_two {s : ByteArray} {i n : Nat} (h : i + 2 * (n + 1) = s.size) : ∃ x y r, (bl s).drop i = x :: y :: r ∧ (bl s).drop (i + 1) = y :: r ∧ (bl s).drop (i + 2) = r := by
  have hl := bl_len s
  have h1 : i < (bl s).length := by omega
  have h2 : i + 1 < (bl s).length := by omega
  have e1 : (bl s).drop i = (bl s)[i] :: (bl s).drop (i + 1) := List.drop_eq_getElem_cons h1
  have e2 : (bl s).drop (i + 1) = (bl s)[i + 1] :: (bl s).drop (i + 2) := List.drop_eq_getElem_cons h2
  exact ⟨_, _, _, by rw [e1, e2], e2, rfl⟩
def unhexR (acc : List UInt8) (l : List UInt8) : ByteArray × Bool := match unhexL l with
  | some r => (ofL (acc ++ r), true)
  | none => (⟨#[]⟩, false)
theorem unhexR_nil (acc : List UInt8) : unhexR acc [] = (ofL acc, true) := by simp [unhexR, unhexL]
theorem unhexR_bad {a b : UInt8} (acc r : List UInt8) (h : ¬ (0 ≤ hexV a ∧ 0 ≤ hexV b)) : unhexR acc (a :: b :: r) = (⟨#[]⟩, false) := by
  unfold unhexR
  rw [unhexL, if_neg h]
theorem unhexR_step {a b : UInt8} (acc r : List UInt8) (h : 0 ≤ hexV a ∧ 0 ≤ hexV b) : unhexR acc (a :: b :: r) = unhexR (acc ++ [hexB a b]) r := by
  unfold unhexR
  rw [unhexL, if_pos h]
  cases unhexL r with
  | none => rfl
  | some l => simp [hexB]
theorem unhexF_R (s : ByteArray) (h1 : s.size % 2 = 0) (h2 : s.size ≤ 40000) : unhexF s = unhexR [] (bl s) := by
  unfold unhexF unhexR
  rw [if_pos ⟨h1, h2⟩]
  cases unhexL (bl s) <;> simp
theorem hexAt (x : UInt8) : g_strings_IndexByte (hexS, (x.toNat : Int)) = some (hexV x) := by
  show some (indexByteF hexS (x.toNat : Int)) = _
  unfold indexByteF
  rw [← hex_index x]
  simp
theorem impl_Unhex_loop (s : ByteArray) (hs : s.size ≤ 40000) : ∀ (n i : Nat), i + 2 * n = s.size → ∀ acc : List UInt8, acc.length ≤ i →
    Ev (fun k => impl_Unhex_L5 (fun _ => g_strings_IndexByte) k (s, (i : Int), toI acc, ())) (unhexR acc ((bl s).drop i)) := by
  intro n
  induction n with
  | zero =>
    intro i hi acc ha
    rw [List.drop_eq_nil_of_le (by rw [bl_len]; omega), unhexR_nil, ← bstr_toI]
    exact Ev.step (fun q => by rw [impl_Unhex_L5]) (ev_neg (by omega) ev_some)
  | succ n ih =>
    intro i hi acc ha
    obtain ⟨x, y, r, e1, e2, e3⟩ := drop_two hi
    have b1 := byt_drop e1
    have b2 := byt_drop (i := i + 1) e2
    have w1 : wrap64 ((i : Int) + 1) = ((i + 1 : Nat) : Int) := by rw [w64_succ (by omega)]; rfl
    have w2 : wrap64 ((i : Int) + 2) = ((i + 2 : Nat) : Int) := by rw [w64 (by omega) (by omega)]; rfl
    refine Ev.step (fun q => by rw [impl_Unhex_L5]) ?_
    rw [w1, w2, b1, b2, e1]
    refine ev_pos (by omega) (ev_pos (by omega) (ev_pos (by omega) (ev_bind (hexAt x) (ev_pos (by omega) (ev_pos (by omega) (ev_bind (hexAt y) ?_))))))
    refine ev_dom (fun h => ?_) (fun h => ?_)
    · rw [unhexR_bad acc r (by omega)]; exact ev_some
    · refine ev_dom (fun h' => ?_) (fun h' => ?_)
      · rw [unhexR_bad acc r (by omega)]; exact ev_some
      · rw [hexB_wr (by omega) (by omega), toI_app, unhexR_step acc r (by omega)]
        refine ev_pos ?_ ?_
        · rw [toI_len]; simp only [List.length_singleton]; omega
        · rw [← e3]
          exact ih (i + 2) (by omega) _ (by simp only [List.length_append, List.length_singleton]; omega)
theorem tmod2 (n : Nat) : Int.tmod (n : Int) 2 = ((n % 2 : Nat) : Int) := by
  rw [Int.tmod_eq_emod_of_nonneg (by omega)]; omega
theorem impl_Unhex_eq (s : ByteArray) : g_impl_Unhex s = some (unhexF s) := by
  refine evG_eq ?_
  unfold impl_Unhex_
  refine ev_neg (by decide) ?_
  rw [tmod2]
  refine ev_dom (fun h => ?_) (fun h => ?_)
  · refine ev_dom (fun h' => ?_) (fun h' => ?_)
    · unfold unhexF; rw [if_neg (by omega)]; exact ev_some
    · rw [unhexF_R s (by omega) (by omega)]
      exact impl_Unhex_loop s (by omega) (s.size / 2) 0 (by omega) [] (Nat.le_refl _)
  · unfold unhexF; rw [if_neg (by omega)]; exact ev_some
/- impl_SenseNames -/
def nameL : List ByteArray := [(⟨#[98, 108, 111, 99, 107]⟩ : ByteArray), (⟨#[97, 105, 114]⟩ : ByteArray), (⟨#[100, 111, 111, 114]⟩ : ByteArray), (⟨#[112, 111, 119, 101, 114]⟩ : ByteArray)]
def bitL (a : Nat) : List Bool := [a % 2 == 1, a / 2 % 2 == 1, a / 4 % 2 == 1, a / 8 % 2 == 1]
def pickL : List Bool → List ByteArray → List ByteArray
  | true :: r, x :: l => x :: pickL r l
  | false :: r, _ :: l => pickL r l
  | _, _ => []
theorem bit_imp : ∀ (a : _root_.Fin 16) (i : _root_.Fin 4), (iand .i64 (Int.fdiv (a.val : Int) (2 ^ (min (Int.toNat (i.val : Int)) (IntKind.bits .i64)))) 1 = 1) ↔ (bitL a.val).getD i.val false = true := by decide +kernel
theorem impl_SenseNames_loop (a : Nat) (ha : a < 16) : ∀ (d i : Nat), i + d = 4 → ∀ acc : List ByteArray, acc.length ≤ i → ∀ r, joinF (acc ++ pickL ((bitL a).drop i) (nameL.drop i)) ⟨#[44]⟩ = some r →
    Ev (fun k => impl_SenseNames_L7 (fun _ => g_impl_SenseOk) (fun _ => g_strings_Join) k ((a : Int), 4, (i : Int), acc, nameL, ())) r := by
  intro d
  induction d with
  | zero =>
    intro i hi acc hacc r hr
    have : i = 4 := by omega
    subst this
    have e : acc ++ pickL ((bitL a).drop 4) (nameL.drop 4) = acc := by simp [bitL, nameL, pickL]
    rw [e] at hr
    refine Ev.step (fun q => by rw [impl_SenseNames_L7]) ?_
    exact ev_neg (by decide) (ev_bind hr ev_some)
  | succ d ih =>
    intro i hi acc hacc r hr
    have hi4 : i < 4 := by omega
    have hn : (nameL.length) = 4 := rfl
    refine Ev.step (fun q => by rw [impl_SenseNames_L7]) ?_
    rw [w64_succ (by omega)]
    refine ev_pos (by omega) (ev_pos (by omega) (ev_pos (by rw [hn]; omega) (ev_pos (by omega) ?_)))
    have key := bit_imp ⟨a, ha⟩ ⟨i, hi4⟩
    have hbl : i < (bitL a).length := by simp [bitL]; omega
    have hnl : i < nameL.length := by rw [hn]; exact hi4
    have d1 : (bitL a).drop i = (bitL a)[i] :: (bitL a).drop (i + 1) := List.drop_eq_getElem_cons hbl
    have d2 : nameL.drop i = nameL[i] :: nameL.drop (i + 1) := List.drop_eq_getElem_cons hnl
    have hg : nameL.getD (i : Int).toNat (⟨#[]⟩ : ByteArray) = nameL[i] := getD_lt hnl
    have hb : (bitL a).getD i false = (bitL a)[i] := by rw [List.getD_eq_getElem?_getD, List.getElem?_eq_getElem hbl]; rfl
    rw [hb] at key
    rw [d1, d2] at hr
    cases hbit : (bitL a)[i] with
    | true =>
      rw [hbit] at hr
      refine ev_pos (key.2 hbit) (ev_pos (by simp only [List.length_singleton]; omega) ?_)
      rw [hg]
      refine ih (i + 1) (by omega) (acc ++ [nameL[i]]) (by simp only [List.length_append, List.length_singleton]; omega) r ?_
      rw [List.append_assoc]
      exact hr
    | false =>
      rw [hbit] at hr
      refine ev_neg (fun q => by have := key.1 q; rw [hbit] at this; cases this) ?_
      exact ih (i + 1) (by omega) acc (by omega) r hr
def senseT (a : Nat) : ByteArray := if a = 0 then (⟨#[110, 111, 110, 101]⟩ : ByteArray) else (joinF (pickL (bitL a) nameL) ⟨#[44]⟩).getD ⟨#[]⟩
theorem sense_join : ∀ a : _root_.Fin 16, a.val ≠ 0 → joinF (pickL (bitL a.val) nameL) ⟨#[44]⟩ = some (senseT a.val) := by
  intro a h
  have hs : ∀ a : _root_.Fin 16, (joinF (pickL (bitL a.val) nameL) ⟨#[44]⟩).isSome = true := by decide +kernel
  unfold senseT
  rw [if_neg h]
  have := hs a
  cases hj : joinF (pickL (bitL a.val) nameL) ⟨#[44]⟩ with
  | none => rw [hj] at this; cases this
  | some r => rfl
theorem impl_SenseNames_eq (a : Nat) (ha : a < 16) : g_impl_SenseNames (a : Int) = some (senseT a) := by
  refine evG_eq ?_
  unfold impl_SenseNames_
  have hok : senseOk (a : Int) = true := by unfold senseOk; exact decide_eq_true (by omega)
  have e := impl_SenseOk_eq (a : Int)
  rw [hok] at e
  by_cases h0 : a = 0
  · subst h0
    exact ev_bind e (ev_pos rfl (ev_pos rfl (ev_eq rfl)))
  · refine ev_bind e (ev_pos rfl (ev_neg (by omega) ?_))
    exact impl_SenseNames_loop a ha 4 0 rfl [] (Nat.le_refl _) _ (sense_join ⟨a, ha⟩ h0)
/- impl_ReadSense -/
-- needs: impl_SenseNames
/-- From b on: which senses a text names. -/
def senseR (s : ByteArray) : Nat → Nat → Int × Bool
  | 0, _ => (0, false)
  | d + 1, b => if senseT b = s then ((b : Int), true) else senseR s d (b + 1)
def senseRd (s : ByteArray) : Int × Bool := senseR s 16 0
theorem impl_ReadSense_eq (s : ByteArray) : g_impl_ReadSense s = some (senseRd s) := by
  refine evG_eq ?_
  have key : ∀ (d i : Nat), i + d = 16 → Ev (fun k => impl_ReadSense_L2 (fun _ => g_impl_SenseNames) k (s, (i : Int), ())) (senseR s d i) := by
    intro d
    induction d with
    | zero =>
      intro i hi
      refine Ev.step (fun q => by rw [impl_ReadSense_L2]) ?_
      exact ev_neg (by omega) ev_some
    | succ d ih =>
      intro i hi
      refine Ev.step (fun q => by rw [impl_ReadSense_L2]) ?_
      rw [w64_succ (by omega)]
      refine ev_pos (by omega) (ev_bind (impl_SenseNames_eq i (by omega)) (ev_dom (fun h => ?_) (fun h => ?_)))
      · rw [senseR, if_pos h]; exact ev_some
      · rw [senseR, if_neg h]; exact ih (i + 1) (by omega)
  exact key 16 0 rfl
/- impl_readIn -/
-- needs: impl_ReadSense impl_Unhex impl_within impl_InOk
abbrev tTick : ByteArray := ⟨#[116, 105, 99, 107]⟩
abbrev tFeel : ByteArray := ⟨#[102, 101, 101, 108]⟩
abbrev tKeys : ByteArray := ⟨#[107, 101, 121, 115]⟩
abbrev tLink : ByteArray := ⟨#[108, 105, 110, 107]⟩
abbrev tMany : ByteArray := ⟨#[109, 97, 110, 121]⟩
abbrev e0 : ByteArray := ⟨#[]⟩
/-- What a line of two parts tells, so many times; 0: it is none. -/
def line2 (a b : ByteArray) : In × Int :=
  if a = tFeel then (if (senseRd b).2 = true then (((senseRd b).1, e0, e0), 1) else ((0, e0, e0), 0))
  else if a = tKeys then ((0, ofL (turnL 46 10 (bl b)), e0), 1)
  else if a = tLink then (if (unhexF b).2 = true then ((0, e0, (unhexF b).1), 1) else ((0, e0, e0), 0))
  else if a = tMany then (if (decR b).2 = true ∧ 1 ≤ (decR b).1 ∧ (decR b).1 ≤ 50 then ((0, e0, e0), (decR b).1) else ((0, e0, e0), 0))
  else ((0, e0, e0), 0)
def lineF : List ByteArray → In × Int
  | [a] => if a = tTick then ((0, e0, e0), 1) else ((0, e0, e0), 0)
  | [a, b] => line2 a b
  | _ => ((0, e0, e0), 0)
def lineOk (p : List ByteArray) : Bool := decide ((lineF p).2 ≠ 0) && inOk (lineF p).1
theorem inOk_E : inOk (0, e0, e0) = true := by decide
theorem decR_range (s : ByteArray) : 0 ≤ (decR s).1 ∧ (decR s).1 ≤ 1000000000 := by
  unfold decR
  split
  · rename_i h
    have := h.2.2.1
    exact ⟨by omega, by show ((valL 0 (bl s) : Nat) : Int) ≤ _; omega⟩
  · exact ⟨by decide, by decide⟩
theorem impl_readIn_eq (p : List ByteArray) (hz : ∀ s ∈ p, s.size ≤ 1000) : ∃ r, g_impl_readIn p = some r ∧ r.2.2 = lineOk p ∧ (lineOk p = true → (r.1, r.2.1) = lineF p) := by
  unfold g_impl_readIn impl_readIn_
  match p, hz with
  | [], _ => exact ⟨_, rfl, rfl, fun h => by cases h⟩
  | [a], _ =>
    by_cases h : a = tTick
    · subst h
      exact ⟨_, rfl, rfl, fun _ => rfl⟩
    · refine ⟨((0, e0, e0), 1, false), ?_, ?_, ?_⟩
      · show some _ = _
        have : decide (a = tTick) = false := decide_eq_false h
        show some (((0 : Int), e0, e0), (1 : Int), decide (a = tTick)) = _
        rw [this]
      · have e : lineF [a] = ((0, e0, e0), 0) := if_neg h
        unfold lineOk
        rw [e]
        rfl
      · have e : lineF [a] = ((0, e0, e0), 0) := if_neg h
        unfold lineOk
        rw [e]
        intro q
        cases q
  | [a, b], hz =>
    have hb : b.size ≤ 1000 := hz b (by simp)
    have eS := impl_ReadSense_eq b
    have eU := impl_Unhex_eq b
    have eR : g_strings_ReplaceAll (b, (⟨#[46]⟩ : ByteArray), (⟨#[10]⟩ : ByteArray)) = some (ofL (turnL 46 10 (bl b))) := replaceF_one b 46 10 (by decide) (by omega)
    have eD : g_impl_ReadDecimal b = some (decR b) := by
      show readDecG b = _
      unfold readDecG
      rw [if_pos (by omega), readDec_eq]
    show ∃ r : In × Int × Bool, (if a = tFeel then (g_impl_ReadSense b).bind _ else if a = tKeys then (g_strings_ReplaceAll (b, (⟨#[46]⟩ : ByteArray), (⟨#[10]⟩ : ByteArray))).bind _ else if a = tLink then (g_impl_Unhex b).bind _ else if a = tMany then (g_impl_ReadDecimal b).bind _ else some _) = some r ∧ r.2.2 = lineOk [a, b] ∧ (lineOk [a, b] = true → (r.1, r.2.1) = lineF [a, b])
    have eL : lineF [a, b] = line2 a b := rfl
    unfold lineOk
    rw [eL]
    unfold line2
    by_cases h1 : a = tFeel
    · rw [if_pos h1, eS]
      simp only [Option.bind_some, if_pos h1]
      by_cases h : (senseRd b).2 = true
      · simp only [if_pos h, impl_InOk_eq, Option.bind_some]
        exact ⟨_, rfl, rfl, fun _ => rfl⟩
      · simp only [if_neg h]
        exact ⟨_, rfl, rfl, fun q => by cases q⟩
    · rw [if_neg h1]
      simp only [if_neg h1]
      by_cases h2 : a = tKeys
      · rw [if_pos h2, eR]
        simp only [Option.bind_some, if_pos h2, impl_InOk_eq]
        exact ⟨_, rfl, rfl, fun _ => rfl⟩
      · rw [if_neg h2]
        simp only [if_neg h2]
        by_cases h3 : a = tLink
        · rw [if_pos h3, eU]
          simp only [Option.bind_some, if_pos h3]
          by_cases h : (unhexF b).2 = true
          · simp only [if_pos h, impl_InOk_eq, Option.bind_some]
            exact ⟨_, rfl, rfl, fun _ => rfl⟩
          · simp only [if_neg h]
            exact ⟨_, rfl, rfl, fun q => by cases q⟩
        · rw [if_neg h3]
          simp only [if_neg h3]
          by_cases h4 : a = tMany
          · rw [if_pos h4, eD]
            simp only [Option.bind_some, if_pos h4]
            by_cases h : (decR b).2 = true
            · simp only [if_pos h, impl_within_eq, Option.bind_some]
              by_cases h5 : 1 ≤ (decR b).1 ∧ (decR b).1 ≤ 50
              · have h6 : (decR b).2 = true ∧ 1 ≤ (decR b).1 ∧ (decR b).1 ≤ 50 := ⟨h, h5⟩
                have h7 : decide ((decR b).1 ≠ 0) = true := decide_eq_true (by omega)
                simp only [decide_eq_true h5, if_true, impl_InOk_eq, Option.bind_some, if_pos h6, h7, Bool.true_and]
                exact ⟨_, rfl, rfl, fun _ => rfl⟩
              · have h6 : ¬ ((decR b).2 = true ∧ 1 ≤ (decR b).1 ∧ (decR b).1 ≤ 50) := fun q => h5 q.2
                simp only [decide_eq_false h5, if_neg Bool.false_ne_true, if_neg h6]
                exact ⟨_, rfl, rfl, fun q => by cases q⟩
            · have h6 : ¬ ((decR b).2 = true ∧ 1 ≤ (decR b).1 ∧ (decR b).1 ≤ 50) := fun q => h q.1
              simp only [if_neg h, if_neg h6]
              exact ⟨_, rfl, rfl, fun q => by cases q⟩
          · rw [if_neg h4]
            simp only [if_neg h4]
            exact ⟨_, rfl, rfl, fun q => by cases q⟩
  | a :: b :: c :: r, _ =>
    have c1 : ¬ (((a :: b :: c :: r).length : Nat) : Int) = 1 := by simp only [List.length_cons]; omega
    have c2 : ¬ (((a :: b :: c :: r).length : Nat) : Int) = 2 := by simp only [List.length_cons]; omega
    simp only [if_neg c1, if_neg c2]
    exact ⟨_, rfl, rfl, fun h => by cases h⟩
/- impl_PartsOf -/
-- needs: impl_within
theorem bytesOk_loop (s : ByteArray) (hs : s.size ≤ 600) (out : List ByteArray) (r : List ByteArray × Bool)
    (hr : (bl s).all okB = true → Ev (fun k => impl_PartsOf_L5 (fun _ => g_impl_within) (fun _ => g_strings_Split) k (s, (s.size : Int), out, ())) r)
    (hn : ¬ (bl s).all okB = true → r = ([], false)) : ∀ (d i : Nat), i + d = s.size → ((bl s).take i).all okB = true →
    Ev (fun k => impl_PartsOf_L5 (fun _ => g_impl_within) (fun _ => g_strings_Split) k (s, (i : Int), out, ())) r := by
  intro d
  induction d with
  | zero =>
    intro i hi ht
    have e : i = s.size := by omega
    subst e
    rw [List.take_of_length_le (by rw [bl_len]; exact Nat.le_refl _)] at ht
    exact hr ht
  | succ d ih =>
    intro i hi ht
    have hl : i < (bl s).length := by rw [bl_len]; omega
    have e1 : (bl s).drop i = (bl s)[i] :: (bl s).drop (i + 1) := List.drop_eq_getElem_cons hl
    have b1 := byt_drop e1
    have hx := ((bl s)[i]).toNat_lt
    have e2 : (bl s).take (i + 1) = (bl s).take i ++ [(bl s)[i]] := by rw [List.take_succ_eq_append_getElem hl]
    refine Ev.step (fun q => by rw [impl_PartsOf_L5]) ?_
    rw [b1, w64 (n := (((bl s)[i]).toNat : Int)) (by omega) (by omega), w64_succ (by omega)]
    refine ev_pos (by omega) (ev_pos (by omega) (ev_pos (by omega) (ev_bind (impl_within_eq _ _ _) ?_)))
    by_cases hb : okB (bl s)[i] = true
    · have hb' := of_decide_eq_true hb
      refine ev_pos (decide_eq_true (by omega)) ?_
      refine ih (i + 1) (by omega) ?_
      rw [e2, List.all_append, ht]
      simp [hb]
    · refine ev_neg (fun q => hb (decide_eq_true (by have := of_decide_eq_true q; omega))) ?_
      rw [hn (fun q => hb (List.all_eq_true.1 q _ (List.getElem_mem hl)))]
      exact ev_some
theorem ofL_eq_nil (p : List UInt8) : ofL p = (⟨#[]⟩ : ByteArray) ↔ p = [] := by
  constructor
  · intro h
    have := congrArg bl h
    rw [bl_ofL] at this
    exact this
  · rintro rfl; rfl
theorem keep_loop (b : List (List UInt8)) (hb : b.length ≤ 100000) (r : List ByteArray × Bool) : ∀ (d i : Nat), i + d = b.length → ∀ out : List ByteArray, out.length ≤ i → 
    r = (if (out ++ (keepL (b.drop i)).map ofL).length ≤ 10 then (out ++ (keepL (b.drop i)).map ofL, true) else ([], false)) →
    Ev (fun k => impl_PartsOf_L10 (fun _ => g_impl_within) (fun _ => g_strings_Split) k (((b.map ofL).length : Int), (i : Int), out, b.map ofL, ())) r := by
  have hlen : (b.map ofL).length = b.length := List.length_map _
  intro d
  induction d with
  | zero =>
    intro i hi out ho hr
    rw [List.drop_eq_nil_of_le (by omega)] at hr
    have e : out ++ (keepL []).map ofL = out := by simp [keepL]
    rw [e] at hr
    refine Ev.step (fun q => by rw [impl_PartsOf_L10]) ?_
    refine ev_neg (by omega) ?_
    subst hr
    refine ev_dom (fun h => ?_) (fun h => ?_)
    · rw [if_neg (by omega)]; exact ev_some
    · rw [if_pos (by omega)]; exact ev_some
  | succ d ih =>
    intro i hi out ho hr
    have hl : i < b.length := by omega
    have hl2 : i < (b.map ofL).length := by omega
    have e1 : b.drop i = b[i] :: b.drop (i + 1) := List.drop_eq_getElem_cons hl
    have hg : (b.map ofL).getD (i : Int).toNat (⟨#[]⟩ : ByteArray) = ofL b[i] := by rw [getD_lt hl2, List.getElem_map]
    rw [e1] at hr
    refine Ev.step (fun q => by rw [impl_PartsOf_L10]) ?_
    rw [hg, w64_succ (by omega)]
    refine ev_pos (by omega) (ev_pos (by omega) (ev_pos (by omega) (ev_dom (fun h => ?_) (fun h => ?_))))
    · have hn : b[i] = [] := (ofL_eq_nil _).1 h
      rw [hn] at hr
      exact ih (i + 1) (by omega) out (by omega) hr
    · have hn : ¬ b[i] = [] := fun q => h ((ofL_eq_nil _).2 q)
      have ek : keepL (b[i] :: b.drop (i + 1)) = b[i] :: keepL (b.drop (i + 1)) := by
        unfold keepL
        rw [List.filter_cons, if_pos]
        cases hq : b[i] with
        | nil => exact absurd hq hn
        | cons _ _ => rfl
      rw [ek] at hr
      refine ev_pos (by simp only [List.length_singleton]; omega) ?_
      refine ih (i + 1) (by omega) (out ++ [ofL b[i]]) (by simp only [List.length_append, List.length_singleton]; omega) ?_
      rw [hr]
      simp
theorem cutL_len (c : UInt8) : ∀ l : List UInt8, (cutL c l).length ≤ l.length + 1
  | [] => Nat.le_refl _
  | b :: l => by
    have := cutL_len c l
    unfold cutL
    split
    · simp only [List.length_cons]; omega
    · split
      · simp
      · rename_i p ps h
        rw [h] at this
        simp only [List.length_cons] at this ⊢
        omega
theorem impl_PartsOf_eq (s : ByteArray) (hz : s.size ≤ 1048576) : g_impl_PartsOf s = some (partsF s) := by
  refine evG_eq ?_
  unfold impl_PartsOf_
  refine ev_dom (fun h => ?_) (fun h => ?_)
  · unfold partsF okLine
    rw [if_neg (fun q => by have := q.1; rw [Bool.and_eq_true] at this; have := of_decide_eq_true this.1; omega)]
    exact ev_some
  · have hs : s.size ≤ 600 := by omega
    refine bytesOk_loop s hs [] _ (fun hok => ?_) (fun hno => ?_) s.size 0 (by omega) rfl
    · refine Ev.step (fun q => by rw [impl_PartsOf_L5]) ?_
      refine ev_neg (by omega) (ev_bind (splitF_one s 32 (by omega)) ?_)
      have hc := cutL_len 32 (bl s)
      rw [bl_len] at hc
      refine keep_loop (cutL 32 (bl s)) (by omega) _ (cutL 32 (bl s)).length 0 (by omega) [] (Nat.le_refl _) ?_
      unfold partsF okLine
      rw [hok, decide_eq_true hs]
      simp
    · unfold partsF okLine
      rw [if_neg (fun q => hno (by have := q.1; rw [Bool.and_eq_true] at this; exact this.2))]
/- impl_linesOf -/
-- needs: impl_PartsOf
theorem impl_linesOf_eq (s : ByteArray) (hz : s.size ≤ 1048576) : g_impl_linesOf s = some (linesF s) := by
  unfold g_impl_linesOf impl_linesOf_ linesF
  have e := splitF_one s 10 (by omega)
  have e' : g_strings_Split (s, (⟨#[10]⟩ : ByteArray)) = some ((cutL 10 (bl s)).map ofL) := e
  have hc := cutL_len 10 (bl s)
  rw [bl_len] at hc
  have hne := cutL_ne 10 (bl s)
  simp only [e', Option.bind_some]
  generalize cutL 10 (bl s) = c at hc hne
  have hl : (c.map ofL).length = c.length := List.length_map _
  have h0 : 0 < c.length := List.length_pos_iff.2 hne
  have w : wrap64 (((c.map ofL).length : Int) - 1) = ((c.length - 1 : Nat) : Int) := by rw [hl, w64 (by omega) (by omega)]; omega
  rw [w]
  have hlt : c.length - 1 < (c.map ofL).length := by omega
  rw [getD_lt hlt, List.getElem_map]
  rw [if_pos (by omega), if_pos (by omega)]
  have hlast : c.getLast? = some (c[c.length - 1]'(by omega)) := by
    rw [List.getLast?_eq_getElem?, List.getElem?_eq_getElem]
  unfold dropE
  rw [hlast]
  by_cases h : c[c.length - 1]'(by omega) = []
  · rw [if_pos ((ofL_eq_nil _).2 h), if_pos (by omega), if_pos (by omega), h, if_pos rfl]
    rw [Int.toNat_natCast, ← List.map_take, List.dropLast_eq_take]
  · rw [if_neg (fun q => h ((ofL_eq_nil _).1 q)), if_neg (fun q => h (Option.some.inj q))]
/- impl_ReadScript -/
-- needs: impl_readIn impl_PartsOf impl_linesOf
/-- A line of blanks, a remark. -/
def skipL : List ByteArray → Bool
  | [] => true
  | p :: _ => decide (byt p 0 = 35)
/-- What a script's lines tell. -/
def rsF : List ByteArray → Nat → List In → List In × Int
  | [], _, acc => (acc, 0)
  | l :: r, i, acc =>
    if (partsF l).2 = true then
      (if skipL (partsF l).1 = true then rsF r (i + 1) acc
       else if lineOk (partsF l).1 = true ∧ (acc.length : Int) + (lineF (partsF l).1).2 ≤ 150 then rsF r (i + 1) (acc ++ List.replicate (lineF (partsF l).1).2.toNat (lineF (partsF l).1).1)
       else ([], ((i : Int) + 1)))
    else ([], ((i : Int) + 1))
def readS (t : ByteArray) : List In × Int := if t.size ≤ 3000 ∧ (linesF t).length ≤ 120 then rsF (linesF t) 0 [] else ([], -1)
theorem keepL_ne {p : List UInt8} {l : List (List UInt8)} (h : p ∈ keepL l) : p ≠ [] := by
  unfold keepL at h
  have := (List.mem_filter.1 h).2
  intro q
  subst q
  cases this
theorem cutL_short (c : UInt8) : ∀ (l : List UInt8) (p : List UInt8), p ∈ cutL c l → p.length ≤ l.length
  | [], p, h => by
    rw [cutL, List.mem_singleton] at h
    subst h
    exact Nat.le_refl _
  | b :: l, p, h => by
    have ih := cutL_short c l
    unfold cutL at h
    split at h
    · rcases List.mem_cons.1 h with h | h
      · subst h; simp
      · have := ih p h
        simp only [List.length_cons]; omega
    · split at h
      · rw [List.mem_singleton] at h
        subst h
        simp
      · rename_i q qs hq
        rcases List.mem_cons.1 h with h | h
        · subst h
          have := ih q (by rw [hq]; exact List.mem_cons_self)
          simp only [List.length_cons]; omega
        · have := ih p (by rw [hq]; exact List.mem_cons_of_mem _ h)
          simp only [List.length_cons]; omega
theorem parts_mem (s : ByteArray) : ∀ p ∈ (partsF s).1, 0 < p.size ∧ p.size ≤ 1000 := by
  intro p hp
  unfold partsF at hp
  split at hp
  · rename_i h
    have h1 := h.1
    unfold okLine at h1
    rw [Bool.and_eq_true] at h1
    have h2 := of_decide_eq_true h1.1
    obtain ⟨q, hq, rfl⟩ := List.mem_map.1 hp
    have h3 := List.length_pos_iff.2 (keepL_ne hq)
    have h4 := cutL_short 32 (bl s) q ((List.mem_filter.1 hq).1)
    rw [bl_len] at h4
    rw [size_ofL]
    omega
  · cases hp
theorem lineF_range (p : List ByteArray) : 0 ≤ (lineF p).2 ∧ (lineF p).2 ≤ 50 := by
  unfold lineF
  split
  · split <;> exact ⟨by decide, by decide⟩
  · unfold line2
    repeat' split
    all_goals first
      | exact ⟨(by show (0 : Int) ≤ 0; decide), (by show (0 : Int) ≤ 50; decide)⟩
      | exact ⟨(by show (0 : Int) ≤ 1; decide), (by show (1 : Int) ≤ 50; decide)⟩
      | (rename_i h; exact ⟨by have := h.2.1; show 0 ≤ (decR _).1; omega, h.2.2⟩)
  · exact ⟨by decide, by decide⟩
theorem repl_snoc {α : Type} (l : List α) (x : α) (n : Nat) : l ++ List.replicate n x ++ [x] = l ++ List.replicate (n + 1) x := by
  rw [List.append_assoc]
  congr 1
  rw [List.replicate_succ']
section
noncomputable abbrev iL6 := impl_ReadScript_L6 (fun _ => g_impl_PartsOf) (fun _ => g_impl_linesOf) (fun _ => g_impl_readIn)
noncomputable abbrev iL16 := impl_ReadScript_L16 (fun _ => g_impl_PartsOf) (fun _ => g_impl_linesOf) (fun _ => g_impl_readIn)
theorem impl_rep (L : List ByteArray) (n i : Nat) (hi : i ≤ 1000000) (x : In) (out : List In) (ho : out.length + n ≤ 1000) (r : List In × Int)
    (h : Ev (fun k => iL6 k ((L.length : Int), (i : Int) + 1, out ++ List.replicate n x, L, ())) r) :
    ∀ (d j : Nat), j + d = n → Ev (fun k => iL16 k ((L.length : Int), (i : Int), (n : Int), (j : Int), out ++ List.replicate j x, x.1, x.2.1, x.2.2, L, ())) r := by
  intro d
  induction d with
  | zero =>
    intro j hj
    have e : j = n := by omega
    subst e
    refine Ev.step (fun q => by rw [iL16, impl_ReadScript_L16]) ?_
    rw [w64_succ (i := i) (by omega)]
    exact ev_neg (by omega) h
  | succ d ih =>
    intro j hj
    refine Ev.step (fun q => by rw [iL16, impl_ReadScript_L16]) ?_
    rw [w64_succ (i := j) (by omega)]
    refine ev_pos (by omega) (ev_pos (by simp only [List.length_append, List.length_replicate, List.length_singleton]; omega) ?_)
    have := ih (j + 1) (by omega)
    rw [← repl_snoc] at this
    exact this
theorem impl_rs_loop (L : List ByteArray) (hL : L.length ≤ 120) (hz : ∀ l ∈ L, l.size ≤ 1048576) : ∀ (d i : Nat), i + d = L.length → ∀ acc : List In, acc.length ≤ 150 → Ev (fun k => iL6 k ((L.length : Int), (i : Int), acc, L, ())) (rsF (L.drop i) i acc) := by
  intro d
  induction d with
  | zero =>
    intro i hi acc ha
    rw [List.drop_eq_nil_of_le (by omega), rsF]
    refine Ev.step (fun q => by rw [iL6, impl_ReadScript_L6]) ?_
    exact ev_neg (by omega) ev_some
  | succ d ih =>
    intro i hi acc ha
    have hl : i < L.length := by omega
    have e1 : L.drop i = L[i] :: L.drop (i + 1) := List.drop_eq_getElem_cons hl
    have hm : L[i] ∈ L := List.getElem_mem hl
    have hp := parts_mem L[i]
    rw [e1, rsF]
    refine Ev.step (fun q => by rw [iL6, impl_ReadScript_L6]) ?_
    rw [getD_lt hl, w64_succ (by omega)]
    refine ev_pos (by omega) (ev_pos (by omega) (ev_pos (by omega) (ev_bind (impl_PartsOf_eq _ (hz _ hm)) ?_)))
    by_cases h2 : (partsF L[i]).2 = true
    case neg =>
      rw [if_neg h2]
      exact ev_neg h2 (ev_neg h2 ev_some)
    rw [if_pos h2]
    generalize (partsF L[i]).1 = ps at hp
    refine ev_pos h2 ?_
    cases ps with
    | nil =>
      rw [if_pos (show skipL [] = true from rfl)]
      refine ev_pos rfl ?_
      exact ih (i + 1) (by omega) acc ha
    | cons p r =>
      have hp0 := hp p List.mem_cons_self
      have hlen : ¬ (((p :: r).length : Nat) : Int) = 0 := by simp only [List.length_cons]; omega
      have hlen2 : (0 : Int) < (((p :: r).length : Nat) : Int) := by simp only [List.length_cons]; omega
      have hg : (p :: r).getD (Int.toNat 0) (⟨#[]⟩ : ByteArray) = p := rfl
      rw [hg]
      refine ev_neg hlen (ev_pos (by decide) (ev_pos hlen2 (ev_pos (by decide) (ev_pos (by omega) (ev_dom (fun h => ?_) (fun h => ?_))))))
      · rw [if_pos (show skipL (p :: r) = true from decide_eq_true h)]
        exact ih (i + 1) (by omega) acc ha
      · rw [if_neg (show ¬ skipL (p :: r) = true from fun q => h (of_decide_eq_true q))]
        obtain ⟨v, hv, hok, hval⟩ := impl_readIn_eq (p :: r) (fun s hs => (hp s hs).2)
        have hr := lineF_range (p :: r)
        refine ev_pos h2 (ev_bind hv (ev_dom (fun h3 => ?_) (fun h3 => ?_)))
        · rw [hok] at h3
          have hv2 := hval h3
          have e2 : v.1 = (lineF (p :: r)).1 := congrArg Prod.fst hv2
          have e3 : v.2.1 = (lineF (p :: r)).2 := congrArg Prod.snd hv2
          rw [e2, e3]
          rw [w64 (by omega) (by omega)]
          refine ev_dom (fun h4 => ?_) (fun h4 => ?_)
          · rw [if_neg (fun q => by have := q.2; omega)]
            exact ev_some
          · rw [if_pos ⟨h3, by omega⟩]
            obtain ⟨n, hn⟩ : ∃ n : Nat, (lineF (p :: r)).2 = (n : Int) := ⟨_, (Int.toNat_of_nonneg hr.1).symm⟩
            rw [hn] at h4 ⊢
            rw [Int.toNat_natCast]
            have h5 := ih (i + 1) (by omega) (acc ++ List.replicate n (lineF (p :: r)).1) (by rw [List.length_append, List.length_replicate]; omega)
            have := impl_rep L n i (by omega) (lineF (p :: r)).1 acc (by omega) _ h5 n 0 (by omega)
            rw [List.replicate_zero, List.append_nil] at this
            exact this
        · rw [hok] at h3
          rw [if_neg (fun q => h3 q.1)]
          exact ev_some
end
theorem linesF_short (t : ByteArray) : ∀ l ∈ linesF t, l.size ≤ t.size := by
  intro l hl
  unfold linesF at hl
  obtain ⟨p, hp, rfl⟩ := List.mem_map.1 hl
  have hm : p ∈ cutL 10 (bl t) := by
    unfold dropE at hp
    split at hp
    · exact (List.dropLast_sublist _).subset hp
    · exact hp
  have := cutL_short 10 (bl t) p hm
  rw [size_ofL, ← bl_len t]
  exact this
theorem impl_ReadScript_eq (t : ByteArray) (ht : t.size ≤ 1048576) : g_impl_ReadScript t = some (readS t) := by
  refine evG_eq ?_
  unfold impl_ReadScript_ readS
  refine ev_bind (impl_linesOf_eq t ht) (ev_dom (fun h => ?_) (fun h => ?_))
  · rw [if_neg (fun q => by have := q.1; omega)]; exact ev_some
  · refine ev_dom (fun h' => ?_) (fun h' => ?_)
    · rw [if_neg (fun q => by have := q.2; omega)]; exact ev_some
    · rw [if_pos ⟨by omega, by omega⟩]
      have := impl_rs_loop (linesF t) (by omega) (fun l hl => Nat.le_trans (linesF_short t l hl) ht) (linesF t).length 0 (by omega) [] (by decide)
      exact this
/- laws_markInS -/
theorem laws_markInS_some (l : List In) (hl : l.length ≤ 2000000) : ∃ r, g_laws_markInS (l, 1) = some r ∧ 0 ≤ r.1 := by
  have key : ∀ (d j : Nat), j + d = l.length → ∀ (k : Int) (out : List In), out.length = l.length → 0 ≤ k ∧ k ≤ 1 + 3 * (j : Int) → ∃ r, Ev (fun n => laws_markInS_L2 (fun _ => g_laws_markText) n (k, (j : Int), out, ())) r ∧ 0 ≤ r.1 := by
    intro d
    induction d with
    | zero =>
      intro j hj k out ho hk
      exact ⟨(k, out), Ev.step (fun w => by rw [laws_markInS_L2]) (ev_neg (by omega) ev_some), hk.1⟩
    | succ d ih =>
      intro j hj k out ho hk
      obtain ⟨e1, e2, e3, _⟩ := w3 (k := k) (by omega) (by omega)
      obtain ⟨v, hv⟩ := laws_markText_some (k + 1) (by omega)
      obtain ⟨u, hu⟩ := laws_markText_some (k + 2) (by omega)
      have hlt : j < out.length := by omega
      obtain ⟨r, h1, h2⟩ := ih (j + 1) (by omega) (k + 3) (out.set j (k, (v, u))) (by rw [List.length_set]; exact ho) (by omega)
      refine ⟨r, Ev.step (fun w => by rw [laws_markInS_L2]) ?_, h2⟩
      rw [w64_succ (by omega), e3, e2, e1]
      simp only [Int.toNat_natCast, List.set_set, getD_set_self hlt, List.length_set]
      exact ev_pos (by omega) (ev_pos (by omega) (ev_pos (by omega) (ev_bind hv (ev_pos (by omega) (ev_pos (by omega) (ev_bind hu (ev_pos (by omega) (ev_pos (by omega) h1))))))))
  obtain ⟨r, h1, h2⟩ := key l.length 0 (by omega) 1 l rfl (by omega)
  exact ⟨r, evG_eq h1, h2⟩
/- spec_l01In -/
theorem spec_l01In_eq (a b c : Int) : g_spec_l01In (a, b, c) = some (decide (b ≤ a ∧ a ≤ c)) := by
  show (if b ≤ a then some (decide (a ≤ c)) else some false) = _
  split
  · rename_i h; refine eq_dec ?_; rw [decide_eq_true_iff]; omega
  · rename_i h; exact dec_no (by omega)
/- spec_SenseOk -/
theorem spec_SenseOk_eq (a : Int) : g_spec_SenseOk a = some (senseOk a) := by
  unfold g_spec_SenseOk spec_SenseOk_
  simp only [spec_l01In_eq, Option.bind_some]; rfl
/- spec_InOk -/
theorem spec_InOk_eq (i : In) : g_spec_InOk i = some (inOk i) := by
  obtain ⟨a, s, t⟩ := i
  unfold g_spec_InOk spec_InOk_ inOk
  simp only [spec_SenseOk_eq, Option.bind_some]
  by_cases h : senseOk a = true
  · rw [if_pos h, h, Bool.true_and]
    by_cases h1 : s.size ≤ 20
    · rw [if_pos (by omega), decide_eq_true h1, Bool.true_and]
      congr 1
      by_cases h2 : t.size ≤ 40
      · rw [decide_eq_true h2, decide_eq_true (by omega)]
      · rw [decide_eq_false h2, decide_eq_false (by omega)]
    · rw [if_neg (by omega), decide_eq_false h1, Bool.false_and]
  · rw [if_neg h, Bool.eq_false_iff.2 h, Bool.false_and]
/- spec_l01Figure -/
theorem spec_l01Figure_eq (m : Nat) (h : m < 10) : g_spec_l01Figure (m : Int) = some ((48 + m : Nat) : Int) := by
  unfold g_spec_l01Figure spec_l01Figure_
  have c : (m : Int) < 10 := by omega
  simp only [c, if_true]
  have e1 : wrap64 (48 + (m : Int)) = ((48 + m : Nat) : Int) := by
    rw [w64 (by omega) (by omega)]; omega
  have e2 : wr .u8 ((48 + m : Nat) : Int) = ((48 + m : Nat) : Int) := by rw [wr8]; omega
  rw [e1, e2]
/- spec_Decimal -/
theorem bstr_bn (x : Nat) : bstr [(x : Int)] = bn [x] := rfl
theorem Decimal_step (m : Nat) (l : List Nat) (r : ByteArray) (h0 : 0 < m) (hm : m < 10000) (hl : l.length ≤ 100)
    (h : Ev (fun k => spec_Decimal_L5 (fun _ => g_spec_l01Figure) k (((m / 10 : Nat) : Int), false, bn ((48 + m % 10) :: l), ())) r) :
    Ev (fun k => spec_Decimal_L5 (fun _ => g_spec_l01Figure) k ((m : Int), false, bn l, ())) r := by
  refine Ev.step (fun q => by rw [spec_Decimal_L5]) ?_
  have e1 : Int.tmod (m : Int) 10 = ((m % 10 : Nat) : Int) := by
    rw [Int.tmod_eq_emod_of_nonneg (by omega)]; omega
  have e2 : Int.tdiv (m : Int) 10 = ((m / 10 : Nat) : Int) := by
    rw [Int.tdiv_eq_ediv_of_nonneg (by omega)]; omega
  have e3 : wrap64 ((m / 10 : Nat) : Int) = ((m / 10 : Nat) : Int) := w64 (by omega) (by omega)
  have e4 : bstr [((48 + m % 10 : Nat) : Int)] ++ bn l = bn ((48 + m % 10) :: l) := by rw [bstr_bn, bn_append]; rfl
  rw [e1, e2, e3]
  refine ev_neg (by omega) (ev_neg (by omega) (ev_neg (by omega) (ev_bind (spec_l01Figure_eq (m % 10) (by omega)) (ev_pos ?_ (ev_neg (by omega) ?_)))))
  · rw [size_bstr, bn_size]
    simp only [List.length_singleton]
    omega
  · rw [e4]
    exact h
theorem Decimal_end (l : List Nat) : Ev (fun k => spec_Decimal_L5 (fun _ => g_spec_l01Figure) k (((0 : Nat) : Int), false, bn l, ())) (bn l) := by
  refine Ev.step (fun q => by rw [spec_Decimal_L5]) ?_
  exact ev_pos rfl (ev_neg (by simp) ev_some)
theorem spec_Decimal_eq (n : Nat) (hn : n < 10000) : g_spec_Decimal (n : Int) = some (decT n) := by
  refine evG_eq ?_
  unfold spec_Decimal_
  by_cases h0 : n = 0
  · subst h0
    exact ev_pos rfl (ev_eq rfl)
  · have c0 : ¬ (n : Int) = 0 := by omega
    have cf : decide ((n : Int) < 0) = false := decide_eq_false (by omega)
    refine ev_neg c0 ?_
    rw [cf]
    have e0 : (⟨#[]⟩ : ByteArray) = bn [] := rfl
    rw [e0]
    unfold decT decL
    by_cases h1 : n < 10
    · rw [if_pos h1]
      have q1 : n / 10 = 0 := by omega
      have q2 : n % 10 = n := by omega
      refine Decimal_step n [] _ (by omega) hn (by simp) ?_
      rw [q1, q2]
      exact Decimal_end _
    · rw [if_neg h1]
      refine Decimal_step n [] _ (by omega) hn (by simp) ?_
      by_cases h2 : n < 100
      · rw [if_pos h2]
        refine Decimal_step (n / 10) _ _ (by omega) (by omega) (by simp) ?_
        have q1 : n / 10 / 10 = 0 := by omega
        have q2 : n / 10 % 10 = n / 10 := by omega
        rw [q1, q2]
        exact Decimal_end _
      · rw [if_neg h2]
        refine Decimal_step (n / 10) _ _ (by omega) (by omega) (by simp) ?_
        by_cases h3 : n < 1000
        · rw [if_pos h3]
          refine Decimal_step (n / 10 / 10) _ _ (by omega) (by omega) (by simp) ?_
          have q1 : n / 10 / 10 / 10 = 0 := by omega
          have q2 : n / 10 / 10 % 10 = n / 100 := by omega
          rw [q1, q2]
          exact Decimal_end _
        · rw [if_neg h3]
          refine Decimal_step (n / 10 / 10) _ _ (by omega) (by omega) (by simp) ?_
          refine Decimal_step (n / 10 / 10 / 10) _ _ (by omega) (by omega) (by simp) ?_
          have q1 : n / 10 / 10 / 10 / 10 = 0 := by omega
          have q2 : n / 10 / 10 / 10 % 10 = n / 1000 := by omega
          have q3 : n / 10 / 10 % 10 = n / 100 % 10 := by omega
          rw [q1, q2, q3]
          exact Decimal_end _
theorem Decimal_loop : ∀ (n : Nat), 0 < n → n ≤ 10000000000000 → ∀ acc : ByteArray, acc.size + n ≤ 100000000000000 → Ev (fun k => spec_Decimal_L5 (fun _ => g_spec_l01Figure) k ((n : Int), false, acc, ())) (decB n ++ acc) := by
  intro n
  induction n using Nat.strongRecOn with
  | ind n ih =>
    intro h0 hn acc ha
    have e1 : Int.tmod (n : Int) 10 = ((n % 10 : Nat) : Int) := by
      rw [Int.tmod_eq_emod_of_nonneg (by omega)]; omega
    have e2 : Int.tdiv (n : Int) 10 = ((n / 10 : Nat) : Int) := by
      rw [Int.tdiv_eq_ediv_of_nonneg (by omega)]; omega
    have e3 : wrap64 ((n / 10 : Nat) : Int) = ((n / 10 : Nat) : Int) := w64 (by omega) (by omega)
    have hz : (bstr [((48 + n % 10 : Nat) : Int)]).size = 1 := by rw [size_bstr]; rfl
    refine Ev.step (fun q => by rw [spec_Decimal_L5]) ?_
    rw [e1, e2, e3]
    refine ev_neg (by omega) (ev_neg (by omega) (ev_neg (by omega) (ev_bind (spec_l01Figure_eq (n % 10) (by omega)) (ev_pos (by omega) (ev_neg (by omega) ?_)))))
    by_cases h1 : n < 10
    · have q1 : n / 10 = 0 := by omega
      rw [q1, decB_lt h1]
      refine Ev.step (fun q => by rw [spec_Decimal_L5]) ?_
      exact ev_pos rfl (ev_neg (by simp) ev_some)
    · rw [decB_ge h1]
      exact ih (n / 10) (by omega) (by omega) (by omega) _ (by rw [size_append, hz]; omega)
theorem spec_Decimal_big (n : Nat) (hn : n ≤ 10000000000000) : g_spec_Decimal (n : Int) = some (decB n) := by
  refine evG_eq ?_
  unfold spec_Decimal_
  by_cases h0 : n = 0
  · subst h0
    refine ev_pos rfl (ev_eq ?_)
    unfold decB
    rw [Go.Lib.decDigits, dif_pos (by decide)]
    rfl
  · have cf : decide ((n : Int) < 0) = false := decide_eq_false (by omega)
    refine ev_neg (by omega) ?_
    rw [cf]
    have h := Decimal_loop n (by omega) hn ⟨#[]⟩ (by show 0 + n ≤ _; omega)
    have e : decB n ++ (⟨#[]⟩ : ByteArray) = decB n := by
      apply ba_ext
      rw [bl_append, bl_empty, List.append_nil]
    rw [e] at h
    exact h
/- spec_ReadDecimal -/
theorem valL_snoc (a : Nat) (l : List UInt8) (c : UInt8) : valL a (l ++ [c]) = valL a l * 10 + (c.toNat - 48) := by
  unfold valL
  rw [List.foldl_append, List.foldl_cons, List.foldl_nil]
theorem decR_no (s : ByteArray) (h : ¬ DecP s) : decR s = (0, false) := by unfold decR; rw [if_neg h]
theorem spec_ReadDecimal_loop (s : ByteArray) (hs : s.size ≤ 10) : ∀ (d i : Nat), i + d = s.size → (∀ c ∈ (bl s).take i, dig c) → ∀ v : Nat, v = valL 0 ((bl s).take i) → v < 10 ^ i →
    Ev (fun k => spec_ReadDecimal_L5 (fun _ => g_spec_Decimal) k (s, (v : Int), (i : Int), ())) (decR s) := by
  intro d
  induction d with
  | zero =>
    intro i hi hd v hv hp
    have e : i = s.size := by omega
    subst e
    have ht : (bl s).take s.size = bl s := List.take_of_length_le (by rw [bl_len]; exact Nat.le_refl _)
    rw [ht] at hd hv
    have hp2 : v < 10000000000 := Nat.lt_of_lt_of_le hp (Nat.pow_le_pow_right (by omega) hs)
    clear hp
    refine Ev.step (fun q => by rw [spec_ReadDecimal_L5]) ?_
    refine ev_neg (by omega) (ev_dom (fun h => ?_) (fun h => ?_))
    · rw [decR_no s (fun q => by have := q.2.2.1; rw [← hv] at this; omega)]
      exact ev_some
    · refine ev_bind (spec_Decimal_big v (by omega)) (ev_dom (fun h2 => ?_) (fun h2 => ?_))
      · have hP : DecP s := ⟨hd, hs, by rw [← hv]; omega, by rw [← hv]; exact h2⟩
        unfold decR
        rw [if_pos hP, ← hv]
        exact ev_some
      · rw [decR_no s (fun q => h2 (by have := q.2.2.2; rw [← hv] at this; exact this))]
        exact ev_some
  | succ d ih =>
    intro i hi hd v hv hp
    have hl : i < (bl s).length := by rw [bl_len]; omega
    have e1 : (bl s).drop i = (bl s)[i] :: (bl s).drop (i + 1) := List.drop_eq_getElem_cons hl
    have b1 := byt_drop e1
    have hx := ((bl s)[i]).toNat_lt
    have e2 : (bl s).take (i + 1) = (bl s).take i ++ [(bl s)[i]] := by rw [List.take_succ_eq_append_getElem hl]
    have hpow : (10 : Nat) ^ (i + 1) = 10 ^ i * 10 := Nat.pow_succ ..
    have hple : (10 : Nat) ^ i ≤ 10 ^ 9 := Nat.pow_le_pow_right (by omega) (by omega)
    have bad : ¬ dig (bl s)[i] → decR s = (0, false) := fun hb => decR_no s fun q => hb (q.1 _ (List.getElem_mem hl))
    refine Ev.step (fun q => by rw [spec_ReadDecimal_L5]) ?_
    rw [b1, w64_succ (by omega)]
    refine ev_pos (by omega) (ev_pos (by omega) (ev_pos (by omega) (ev_dom (fun h => ?_) (fun h => ?_))))
    · rw [bad (fun q => by have := q.1; omega)]; exact ev_some
    refine ev_pos (by omega) (ev_pos (by omega) (ev_dom (fun h' => ?_) (fun h' => ?_)))
    · rw [bad (fun q => by have := q.2; omega)]; exact ev_some
    have hdig : dig (bl s)[i] := ⟨by omega, by omega⟩
    have w1 : wrap64 (wrap64 (wrap64 (10 * (v : Int)) + wrap64 ((((bl s)[i]).toNat : Nat) : Int)) - 48) = ((v * 10 + (((bl s)[i]).toNat - 48) : Nat) : Int) := by
      clear b1 e1 e2 bad ih hd hv
      generalize ((bl s)[i]).toNat = x at *
      generalize (10 : Nat) ^ i = p at *
      have hp9 : p ≤ 1000000000 := hple
      rw [w64 (n := 10 * (v : Int)) (by omega) (by omega), w64 (n := (x : Int)) (by omega) (by omega), w64 (n := 10 * (v : Int) + (x : Int)) (by omega) (by omega), w64 (by omega) (by omega)]
      omega
    rw [w1]
    refine ev_pos (by omega) (ev_pos (by omega) ?_)
    refine ih (i + 1) (by omega) ?_ _ ?_ ?_
    · rw [e2]
      intro c hc
      rcases List.mem_append.1 hc with h3 | h3
      · exact hd c h3
      · rw [List.mem_singleton.1 h3]; exact hdig
    · rw [e2, valL_snoc, ← hv]
    · rw [hpow]
      generalize (10 : Nat) ^ i = p at *
      have := hdig.2
      omega
theorem spec_ReadDecimal_eq (s : ByteArray) : g_spec_ReadDecimal s = some (decR s) := by
  refine evG_eq ?_
  unfold spec_ReadDecimal_
  refine ev_dom (fun h => ?_) (fun h => ?_)
  · rw [decR_no s (fun q => by have := q.2.1; omega)]; exact ev_some
  · exact spec_ReadDecimal_loop s (by omega) s.size 0 (by omega) (by simp) 0 rfl (by decide)
/- spec_l01Value -/
theorem spec_l01Value_eq (x : UInt8) : g_spec_l01Value (x.toNat : Int) = some (hexV x) := by
  have hx := x.toNat_lt
  unfold g_spec_l01Value spec_l01Value_ hexV
  simp only []
  have e0 : wrap64 (x.toNat : Int) = (x.toNat : Int) := w64 (by omega) (by omega)
  rw [e0]
  generalize x.toNat = n at *
  have e1 : wrap64 ((n : Int) - 48) = (n : Int) - 48 := w64 (by omega) (by omega)
  have e2 : wrap64 ((n : Int) - 97) = (n : Int) - 97 := w64 (by omega) (by omega)
  have e3 : wrap64 ((n : Int) - 97 + 10) = (n : Int) - 97 + 10 := w64 (by omega) (by omega)
  rw [e1, e2, e3]
  repeat' split
  all_goals first | rfl | (exfalso; omega)
/- spec_Unhex -/
-- needs: impl_Unhex
theorem spec_Unhex_loop (s : ByteArray) (hs : s.size ≤ 40000) : ∀ (n i : Nat), i + 2 * n = s.size → ∀ acc : List UInt8, acc.length ≤ i →
    Ev (fun k => spec_Unhex_L5 (fun _ => g_spec_l01Value) k (s, (i : Int), toI acc, ())) (unhexR acc ((bl s).drop i)) := by
  intro n
  induction n with
  | zero =>
    intro i hi acc ha
    rw [List.drop_eq_nil_of_le (by rw [bl_len]; omega), unhexR_nil, ← bstr_toI]
    exact Ev.step (fun q => by rw [spec_Unhex_L5]) (ev_neg (by omega) ev_some)
  | succ n ih =>
    intro i hi acc ha
    obtain ⟨x, y, r, e1, e2, e3⟩ := drop_two hi
    have b1 := byt_drop e1
    have b2 := byt_drop (i := i + 1) e2
    have w1 : wrap64 ((i : Int) + 1) = ((i + 1 : Nat) : Int) := by rw [w64_succ (by omega)]; rfl
    have w2 : wrap64 ((i : Int) + 2) = ((i + 2 : Nat) : Int) := by rw [w64 (by omega) (by omega)]; rfl
    refine Ev.step (fun q => by rw [spec_Unhex_L5]) ?_
    rw [w1, w2, b1, b2, e1]
    refine ev_pos (by omega) (ev_pos (by omega) (ev_pos (by omega) (ev_bind (spec_l01Value_eq x) (ev_pos (by omega) (ev_pos (by omega) (ev_bind (spec_l01Value_eq y) ?_))))))
    refine ev_dom (fun h => ?_) (fun h => ?_)
    · rw [unhexR_bad acc r (by omega)]; exact ev_some
    · refine ev_dom (fun h' => ?_) (fun h' => ?_)
      · rw [unhexR_bad acc r (by omega)]; exact ev_some
      · rw [hexB_wr (by omega) (by omega), toI_app, unhexR_step acc r (by omega)]
        refine ev_pos ?_ ?_
        · rw [toI_len]; simp only [List.length_singleton]; omega
        · rw [← e3]
          exact ih (i + 2) (by omega) _ (by simp only [List.length_append, List.length_singleton]; omega)
theorem spec_Unhex_eq (s : ByteArray) : g_spec_Unhex s = some (unhexF s) := by
  refine evG_eq ?_
  unfold spec_Unhex_
  refine ev_dom (fun h' => ?_) (fun h' => ?_)
  · unfold unhexF; rw [if_neg (by omega)]; exact ev_some
  · refine ev_neg (by decide) ?_
    rw [tmod2]
    refine ev_dom (fun h => ?_) (fun h => ?_)
    · rw [unhexF_R s (by omega) (by omega)]
      exact spec_Unhex_loop s (by omega) (s.size / 2) 0 (by omega) [] (Nat.le_refl _)
    · unfold unhexF; rw [if_neg (by omega)]; exact ev_some
/- spec_Has -/
def hs (a m : Int) : Bool := decide ((Int.tmod (wrap64 (Int.tdiv a m)) 2) = 1)
theorem has15 : ∀ a b : _root_.Fin 16, ∀ m ∈ [(1 : Int), 2, 4, 8], hs (ior .i64 (a.val : Int) (b.val : Int)) m = (hs (a.val : Int) m || hs (b.val : Int) m) := by decide +kernel
theorem Has_or {a b m : Int} (ha : senseOk a = true) (hb : senseOk b = true) (hm : m ∈ [(1 : Int), 2, 4, 8]) : hs (ior .i64 a b) m = (hs a m || hs b m) := by
  unfold senseOk at ha hb
  have ha := of_decide_eq_true ha
  have hb := of_decide_eq_true hb
  have h := has15 ⟨a.toNat, by omega⟩ ⟨b.toNat, by omega⟩ m hm
  simp only [Int.toNat_of_nonneg ha.1, Int.toNat_of_nonneg hb.1] at h
  exact h
theorem spec_Has_eq {a m : Int} (ha : senseOk a = true) (hm : m ∈ [(1 : Int), 2, 4, 8]) : g_spec_Has (a, m) = some (hs a m) := by
  unfold g_spec_Has spec_Has_
  simp only [spec_SenseOk_eq, Option.bind_some, ha, if_true]
  simp at hm
  rcases hm with rfl | rfl | rfl | rfl <;> rfl
/- spec_SenseNames -/
-- needs: impl_SenseNames spec_Has
def bitsL : List Int := [1, 2, 4, 8]
def specF : List Bool → List ByteArray → ByteArray → ByteArray
  | true :: r, x :: l, acc => specF r l (if acc = (⟨#[]⟩ : ByteArray) then acc ++ x else (acc ++ (⟨#[44]⟩ : ByteArray)) ++ x)
  | false :: r, _ :: l, acc => specF r l acc
  | _, _, acc => if acc = (⟨#[]⟩ : ByteArray) then (⟨#[110, 111, 110, 101]⟩ : ByteArray) else acc
theorem has_bit : ∀ (a : _root_.Fin 16) (i : _root_.Fin 4), hs (a.val : Int) (bitsL.getD i.val 0) = (bitL a.val).getD i.val false := by decide +kernel
theorem name_size : ∀ x ∈ nameL, x.size ≤ 5 := by decide
theorem bits_mem : ∀ i : _root_.Fin 4, bitsL.getD i.val 0 ∈ [(1 : Int), 2, 4, 8] := by decide
theorem spec_SenseNames_loop (a : Nat) (ha : a < 16) : ∀ (d i : Nat), i + d = 4 → ∀ acc : ByteArray, acc.size ≤ 6 * i →
    Ev (fun k => spec_SenseNames_L7 (fun _ => g_spec_Has) (fun _ => g_spec_SenseOk) k ((a : Int), acc, (i : Int), nameL, bitsL, ())) (specF ((bitL a).drop i) (nameL.drop i) acc) := by
  have hok : senseOk (a : Int) = true := by unfold senseOk; exact decide_eq_true (by omega)
  intro d
  induction d with
  | zero =>
    intro i hi acc hacc
    have : i = 4 := by omega
    subst this
    have e : specF ((bitL a).drop 4) (nameL.drop 4) acc = if acc = (⟨#[]⟩ : ByteArray) then (⟨#[110, 111, 110, 101]⟩ : ByteArray) else acc := by simp [bitL, nameL, specF]
    rw [e]
    refine Ev.step (fun q => by rw [spec_SenseNames_L7]) ?_
    refine ev_neg (by decide) (ev_dom (fun h => ?_) (fun h => ?_))
    · rw [if_pos h]; exact ev_some
    · rw [if_neg h]; exact ev_some
  | succ d ih =>
    intro i hi acc hacc
    have hi4 : i < 4 := by omega
    have hn : (nameL.length) = 4 := rfl
    have hbn : (bitsL.length) = 4 := rfl
    have key := has_bit ⟨a, ha⟩ ⟨i, hi4⟩
    have hm := bits_mem ⟨i, hi4⟩
    have hbl : i < (bitL a).length := by simp [bitL]; omega
    have hnl : i < nameL.length := by rw [hn]; exact hi4
    have d1 : (bitL a).drop i = (bitL a)[i] :: (bitL a).drop (i + 1) := List.drop_eq_getElem_cons hbl
    have d2 : nameL.drop i = nameL[i] :: nameL.drop (i + 1) := List.drop_eq_getElem_cons hnl
    have hg : nameL.getD (i : Int).toNat (⟨#[]⟩ : ByteArray) = nameL[i] := getD_lt hnl
    have hb : (bitL a).getD i false = (bitL a)[i] := by rw [List.getD_eq_getElem?_getD, List.getElem?_eq_getElem hbl]; rfl
    have hz : nameL[i].size ≤ 5 := name_size _ (List.getElem_mem hnl)
    have h44 : (⟨#[44]⟩ : ByteArray).size = 1 := rfl
    have eH : g_spec_Has ((a : Int), bitsL.getD (i : Int).toNat 0) = some (hs (a : Int) (bitsL.getD i 0)) := spec_Has_eq hok hm
    rw [hb] at key
    have key : hs (a : Int) (bitsL.getD i 0) = (bitL a)[i] := key
    rw [key] at eH
    rw [d1, d2]
    refine Ev.step (fun q => by rw [spec_SenseNames_L7]) ?_
    rw [w64_succ (by omega), hg]
    refine ev_pos (by omega) (ev_pos (by omega) (ev_pos (by rw [hbn]; omega) (ev_bind eH ?_)))
    cases hbit : (bitL a)[i] with
    | true =>
      refine ev_pos rfl (ev_dom (fun h => ?_) (fun h => ?_))
      · refine ev_pos (by omega) (ev_pos (by rw [hn]; omega) (ev_pos (by omega) ?_))
        have e : specF (true :: (bitL a).drop (i + 1)) (nameL[i] :: nameL.drop (i + 1)) acc = specF ((bitL a).drop (i + 1)) (nameL.drop (i + 1)) (acc ++ nameL[i]) := by
          rw [specF, if_pos h]
        rw [e]
        exact ih (i + 1) (by omega) _ (by rw [size_append]; omega)
      · refine ev_pos (by omega) (ev_pos (by omega) (ev_pos (by rw [hn]; omega) (ev_pos (by rw [size_append]; omega) ?_)))
        have e : specF (true :: (bitL a).drop (i + 1)) (nameL[i] :: nameL.drop (i + 1)) acc = specF ((bitL a).drop (i + 1)) (nameL.drop (i + 1)) ((acc ++ (⟨#[44]⟩ : ByteArray)) ++ nameL[i]) := by
          rw [specF, if_neg h]
        rw [e]
        exact ih (i + 1) (by omega) _ (by rw [size_append, size_append]; omega)
    | false =>
      refine ev_neg Bool.false_ne_true ?_
      exact ih (i + 1) (by omega) acc (by omega)
theorem spec_join : ∀ a : _root_.Fin 16, specF (bitL a.val) nameL ⟨#[]⟩ = senseT a.val := by decide +kernel
theorem spec_SenseNames_eq (a : Nat) (ha : a < 16) : g_spec_SenseNames (a : Int) = some (senseT a) := by
  refine evG_eq ?_
  unfold spec_SenseNames_
  have hok : senseOk (a : Int) = true := by unfold senseOk; exact decide_eq_true (by omega)
  have e := spec_SenseOk_eq (a : Int)
  rw [hok] at e
  have h := spec_SenseNames_loop a ha 4 0 rfl ⟨#[]⟩ (Nat.le_refl _)
  rw [List.drop_zero, List.drop_zero, spec_join ⟨a, ha⟩] at h
  exact ev_bind e (ev_pos rfl h)
/- spec_ReadSense -/
-- needs: spec_SenseNames impl_ReadSense
theorem spec_ReadSense_eq (s : ByteArray) : g_spec_ReadSense s = some (senseRd s) := by
  refine evG_eq ?_
  have key : ∀ (d i : Nat), i + d = 16 → Ev (fun k => spec_ReadSense_L2 (fun _ => g_spec_SenseNames) k (s, (i : Int), ())) (senseR s d i) := by
    intro d
    induction d with
    | zero =>
      intro i hi
      refine Ev.step (fun q => by rw [spec_ReadSense_L2]) ?_
      exact ev_neg (by omega) ev_some
    | succ d ih =>
      intro i hi
      refine Ev.step (fun q => by rw [spec_ReadSense_L2]) ?_
      rw [w64_succ (by omega)]
      refine ev_pos (by omega) (ev_bind (spec_SenseNames_eq i (by omega)) (ev_dom (fun h => ?_) (fun h => ?_)))
      · rw [senseR, if_pos h]; exact ev_some
      · rw [senseR, if_neg h]; exact ih (i + 1) (by omega)
  exact key 16 0 rfl
/- spec_l05Lines -/
-- needs: impl_PartsOf
theorem ofL_extract (s : ByteArray) (a b : Nat) (h1 : a ≤ b) (h2 : b ≤ s.size) : ByteArray.extract s (Int.toNat (a : Int)) (Int.toNat (b : Int)) = ofL (((bl s).drop a).take (b - a)) := by
  apply ba_ext
  rw [bl_ofL, Int.toNat_natCast, Int.toNat_natCast]
  unfold bl
  simp [ByteArray.data_extract, List.extract_eq_take_drop]
theorem take_snoc {l : List UInt8} {a i : Nat} {x : UInt8} {r : List UInt8} (h : l.drop i = x :: r) (ha : a ≤ i) : (l.drop a).take (i + 1 - a) = (l.drop a).take (i - a) ++ [x] := by
  have hi : i < l.length := by
    rcases Nat.lt_or_ge i l.length with h1 | h1
    · exact h1
    · rw [List.drop_eq_nil_of_le h1] at h; cases h
  have e : i + 1 - a = (i - a) + 1 := by omega
  have hlt : i - a < (l.drop a).length := by rw [List.length_drop]; omega
  rw [e, List.take_succ_eq_append_getElem hlt, List.getElem_drop]
  congr 2
  rw [List.drop_eq_getElem_cons hi] at h
  injection h with h _
  rw [← h]
  congr 1
  omega
theorem spec_l05Lines_loop (s : ByteArray) (hs : s.size ≤ 1048576) : ∀ (d i : Nat), i + d = s.size → ∀ (a : Nat) (out : List ByteArray), a ≤ i → out.length ≤ i →
    Ev (fun k => spec_l05Lines_L4 k (s, (a : Int), (i : Int), out, ())) (out ++ (linesP (((bl s).drop a).take (i - a)) ((bl s).drop i)).map ofL) := by
  intro d
  induction d with
  | zero =>
    intro i hi a out ha ho
    have e : i = s.size := by omega
    subst e
    rw [show (bl s).drop s.size = [] from List.drop_eq_nil_of_le (by rw [bl_len]; exact Nat.le_refl _)]
    refine Ev.step (fun q => by rw [spec_l05Lines_L4]) ?_
    refine ev_neg (by omega) ?_
    by_cases h : a < s.size
    · have hne : ((bl s).drop a).take (s.size - a) ≠ [] := by
        intro q
        have := congrArg List.length q
        rw [List.length_take, List.length_drop, bl_len] at this
        simp at this
        omega
      rw [linesP, if_neg hne]
      refine ev_pos (by omega) (ev_pos (by omega) (ev_pos (by omega) (ev_pos (by simp only [List.length_singleton]; omega) (ev_eq ?_))))
      rw [ofL_extract s a s.size (by omega) (Nat.le_refl _)]
      rfl
    · have hnil : ((bl s).drop a).take (s.size - a) = [] := by
        rw [List.drop_eq_nil_of_le (by rw [bl_len]; omega), List.take_nil]
      rw [hnil, linesP, if_pos rfl]
      refine ev_neg (by omega) (ev_eq ?_)
      simp
  | succ d ih =>
    intro i hi a out ha ho
    have hl : i < (bl s).length := by rw [bl_len]; omega
    have e1 : (bl s).drop i = (bl s)[i] :: (bl s).drop (i + 1) := List.drop_eq_getElem_cons hl
    have b1 := byt_drop e1
    refine Ev.step (fun q => by rw [spec_l05Lines_L4]) ?_
    rw [b1, w64_succ (by omega), e1]
    refine ev_pos (by omega) (ev_pos (by omega) (ev_pos (by omega) (ev_dom (fun h => ?_) (fun h => ?_))))
    · have hx : (bl s)[i] = 10 := by
        apply UInt8.toNat_inj.1
        show _ = 10
        omega
      rw [hx, linesP, if_pos rfl]
      refine ev_pos (by omega) (ev_pos (by omega) (ev_pos (by omega) (ev_pos (by omega) (ev_pos (by simp only [List.length_singleton]; omega) ?_))))
      rw [ofL_extract s a i ha (by omega)]
      have := ih (i + 1) (by omega) (i + 1) (out ++ [ofL (((bl s).drop a).take (i - a))]) (Nat.le_refl _) (by simp only [List.length_append, List.length_singleton]; omega)
      rw [Nat.sub_self, List.take_zero] at this
      simpa using this
    · have hx : ¬ (bl s)[i] = 10 := by
        intro q
        rw [q] at h
        exact h rfl
      rw [linesP, if_neg hx]
      have := ih (i + 1) (by omega) a out (by omega) (by omega)
      rw [take_snoc e1 ha] at this
      exact this
theorem spec_l05Lines_eq (s : ByteArray) (hs : s.size ≤ 1048576) : g_spec_l05Lines s = some (linesF s) := by
  refine evG_eq ?_
  have h := spec_l05Lines_loop s hs s.size 0 (by omega) 0 [] (Nat.le_refl _) (Nat.le_refl _)
  have e : linesF s = [] ++ (linesP (((bl s).drop 0).take (0 - 0)) ((bl s).drop 0)).map ofL := by
    rw [linesF_P]
    simp
  rw [e]
  exact h
/- spec_l20Line -/
-- needs: impl_readIn spec_ReadSense spec_Unhex spec_ReadDecimal spec_l05Lines
theorem bl_one (s : ByteArray) (i : Nat) (x : UInt8) (r : List UInt8) (h : (bl s).drop i = x :: r) : ByteArray.extract s (Int.toNat (i : Int)) (Int.toNat ((i + 1 : Nat) : Int)) = ofL [x] := by
  have hi : i < (bl s).length := by
    rcases Nat.lt_or_ge i (bl s).length with h1 | h1
    · exact h1
    · rw [List.drop_eq_nil_of_le h1] at h; cases h
  rw [bl_len] at hi
  rw [ofL_extract s i (i + 1) (by omega) (by omega), h]
  have : i + 1 - i = 1 := by omega
  rw [this]
  rfl
theorem ofL_app (a b : List UInt8) : ofL a ++ ofL b = ofL (a ++ b) := by
  apply ba_ext
  rw [bl_append, bl_ofL, bl_ofL, bl_ofL]
theorem turnL_cons (a b x : UInt8) (l : List UInt8) : turnL a b (x :: l) = (if x = a then b else x) :: turnL a b l := rfl
theorem spec_keys_loop (a b : ByteArray) (hb : b.size ≤ 1000) : ∀ (d i : Nat), i + d = b.size → ∀ acc : List UInt8, acc.length ≤ i →
    Ev (fun k => spec_l20Line_L13 (fun _ => g_spec_ReadDecimal) (fun _ => g_spec_ReadSense) (fun _ => g_spec_Unhex) (fun _ => g_spec_l01In) k (ofL acc, (i : Int), [a, b], 0, (⟨#[]⟩ : ByteArray), (⟨#[]⟩ : ByteArray), ())) ((0, ofL (acc ++ turnL 46 10 ((bl b).drop i)), e0), 1) := by
  have g1 : List.getD [a, b] (Int.toNat 1) (⟨#[]⟩ : ByteArray) = b := rfl
  have l2 : (1 : Int) < (([a, b].length : Nat) : Int) := by show (1 : Int) < 2; decide
  have z1 : (⟨#[10]⟩ : ByteArray).size = 1 := rfl
  intro d
  induction d with
  | zero =>
    intro i hi acc ha
    have e : i = b.size := by omega
    subst e
    rw [show (bl b).drop b.size = [] from List.drop_eq_nil_of_le (by rw [bl_len]; exact Nat.le_refl _)]
    refine Ev.step (fun q => by rw [spec_l20Line_L13]) ?_
    rw [g1]
    refine ev_pos (by omega) (ev_pos l2 (ev_neg (by omega) (ev_eq ?_)))
    simp [turnL]
  | succ d ih =>
    intro i hi acc ha
    have hl : i < (bl b).length := by rw [bl_len]; omega
    have e1 : (bl b).drop i = (bl b)[i] :: (bl b).drop (i + 1) := List.drop_eq_getElem_cons hl
    have b1 := byt_drop e1
    have ex := bl_one b i _ _ e1
    rw [e1, turnL_cons]
    refine Ev.step (fun q => by rw [spec_l20Line_L13]) ?_
    rw [g1, b1, show wrap64 ((i : Int) + 1) = ((i + 1 : Nat) : Int) from w64_succ (by omega), ex]
    refine ev_pos (by omega) (ev_pos l2 (ev_pos (by omega) (ev_pos (by omega) (ev_pos l2 (ev_pos (by omega) (ev_pos (by omega) (ev_dom (fun h => ?_) (fun h => ?_))))))))
    · have hx : (bl b)[i] = 46 := by
        apply UInt8.toNat_inj.1
        show _ = 46
        omega
      rw [if_pos hx]
      have e2 : ofL acc ++ (⟨#[10]⟩ : ByteArray) = ofL (acc ++ [10]) := ofL_app acc [10]
      rw [e2]
      refine ev_pos (by rw [size_ofL, z1]; omega) ?_
      have := ih (i + 1) (by omega) (acc ++ [10]) (by simp only [List.length_append, List.length_singleton]; omega)
      rw [List.append_assoc] at this
      exact this
    · have hx : ¬ (bl b)[i] = 46 := by
        intro q
        rw [q] at h
        exact h rfl
      rw [if_neg hx, ofL_app]
      refine ev_pos (by omega) (ev_pos l2 (ev_pos (by omega) (ev_pos (by omega) (ev_pos (by omega) (ev_pos (by omega) (ev_pos (by rw [size_ofL, size_ofL]; simp only [List.length_singleton]; omega) ?_))))))
      have := ih (i + 1) (by omega) (acc ++ [(bl b)[i]]) (by simp only [List.length_append, List.length_singleton]; omega)
      rw [List.append_assoc] at this
      exact this
theorem spec_line2 (a b : ByteArray) (hb : b.size ≤ 1000) :
    Ev (fun k => if a = tFeel then (g_spec_ReadSense b).bind fun v => if v.2 = true then some ((v.1, e0, e0), 1) else some ((0, e0, e0), 0)
      else if a = tKeys then spec_l20Line_L13 (fun _ => g_spec_ReadDecimal) (fun _ => g_spec_ReadSense) (fun _ => g_spec_Unhex) (fun _ => g_spec_l01In) k (e0, 0, [a, b], 0, e0, e0, ())
      else if a = tLink then (g_spec_Unhex b).bind fun v => if v.2 = true then some ((0, e0, v.1), 1) else some ((0, e0, e0), 0)
      else if a = tMany then (g_spec_ReadDecimal b).bind fun v => if v.2 = true then (g_spec_l01In (v.1, 1, 50)).bind fun q => if q = true then some ((0, e0, e0), v.1) else some ((0, e0, e0), 0) else some ((0, e0, e0), 0)
      else some ((0, e0, e0), 0)) (line2 a b) := by
  unfold line2
  refine ev_dom (fun h => ?_) (fun h => ?_)
  · rw [if_pos h]
    refine ev_bind (spec_ReadSense_eq b) (ev_dom (fun h => ?_) (fun h => ?_))
    · rw [if_pos h]; exact ev_some
    · rw [if_neg h]; exact ev_some
  rw [if_neg h]
  refine ev_dom (fun h => ?_) (fun h => ?_)
  · rw [if_pos h]
    exact spec_keys_loop a b hb b.size 0 (by omega) [] (Nat.le_refl _)
  rw [if_neg h]
  refine ev_dom (fun h => ?_) (fun h => ?_)
  · rw [if_pos h]
    refine ev_bind (spec_Unhex_eq b) (ev_dom (fun h => ?_) (fun h => ?_))
    · rw [if_pos h]; exact ev_some
    · rw [if_neg h]; exact ev_some
  rw [if_neg h]
  refine ev_dom (fun h => ?_) (fun h => ?_)
  · rw [if_pos h]
    refine ev_bind (spec_ReadDecimal_eq b) (ev_dom (fun h => ?_) (fun h => ?_))
    · refine ev_bind (spec_l01In_eq _ _ _) (ev_dom (fun h' => ?_) (fun h' => ?_))
      · rw [if_pos ⟨h, of_decide_eq_true h'⟩]; exact ev_some
      · rw [if_neg (fun q => h' (decide_eq_true q.2))]; exact ev_some
    · rw [if_neg (fun q => h q.1)]; exact ev_some
  · rw [if_neg h]; exact ev_some
theorem line2_tick (b : ByteArray) : line2 tTick b = ((0, e0, e0), 0) := by
  unfold line2
  rw [if_neg (by decide), if_neg (by decide), if_neg (by decide), if_neg (by decide)]
theorem spec_l20Line_eq (p : List ByteArray) (hp : p ≠ []) (hz : ∀ s ∈ p, s.size ≤ 1000) : g_spec_l20Line p = some (lineF p) := by
  refine evG_eq ?_
  unfold spec_l20Line_
  match p, hp, hz with
  | [a], _, _ =>
    have c0 : (0 : Int) < (([a].length : Nat) : Int) := by show (0 : Int) < 1; decide
    have c2 : ¬ (([a].length : Nat) : Int) = 2 := by show ¬ (1 : Int) = 2; decide
    refine ev_pos (by decide) (ev_pos c0 (ev_dom (fun h => ?_) (fun h => ?_)))
    · have e : lineF [a] = ((0, e0, e0), 1) := if_pos h
      rw [e]
      exact ev_pos rfl ev_some
    · have e : lineF [a] = ((0, e0, e0), 0) := if_neg h
      rw [e]
      exact ev_neg c2 ev_some
  | [a, b], _, hz =>
    have hb : b.size ≤ 1000 := hz b (by simp)
    have c0 : (0 : Int) < (([a, b].length : Nat) : Int) := by show (0 : Int) < 2; decide
    have c1 : (1 : Int) < (([a, b].length : Nat) : Int) := by show (1 : Int) < 2; decide
    have cn : ¬ (([a, b].length : Nat) : Int) = 1 := by show ¬ (2 : Int) = 1; decide
    have c2 : (([a, b].length : Nat) : Int) = 2 := rfl
    have eL : lineF [a, b] = line2 a b := rfl
    have h2 := spec_line2 a b hb
    rw [eL]
    simp only [if_pos c0, if_pos c1, if_neg cn, if_pos c2, Nat.le_refl, if_true, show (0 : Nat) ≤ 1 from by decide]
    refine ev_dom (fun h => ?_) (fun h => ?_)
    · exact h2
    · exact h2
  | a :: b :: c :: r, _, _ =>
    have c0 : (0 : Int) < (((a :: b :: c :: r).length : Nat) : Int) := by simp only [List.length_cons]; omega
    have c1 : ¬ (((a :: b :: c :: r).length : Nat) : Int) = 1 := by simp only [List.length_cons]; omega
    have c2 : ¬ (((a :: b :: c :: r).length : Nat) : Int) = 2 := by simp only [List.length_cons]; omega
    have e : lineF (a :: b :: c :: r) = ((0, e0, e0), 0) := rfl
    rw [e]
    refine ev_pos (by decide) (ev_pos c0 (ev_dom (fun h => ?_) (fun h => ?_)))
    · exact ev_neg c1 (ev_neg c2 ev_some)
    · exact ev_neg c2 ev_some
/- spec_PartsOf -/
-- needs: impl_PartsOf spec_l05Lines
theorem spec_parts_bad (s : ByteArray) (h : ¬ (bl s).all okB = true) : partsF s = ([], false) := by
  unfold partsF okLine
  rw [if_neg (fun q => h (by have := q.1; rw [Bool.and_eq_true] at this; exact this.2))]
theorem piece_nil {s : ByteArray} {a i : Nat} (h2 : i ≤ s.size) : ((bl s).drop a).take (i - a) = [] ↔ ¬ a < i := by
  have hl := bl_len s
  constructor
  · intro q h
    have := congrArg List.length q
    rw [List.length_take, List.length_drop] at this
    simp at this
    omega
  · intro h
    have : i - a = 0 := by omega
    rw [this, List.take_zero]
theorem spec_PartsOf_loop (s : ByteArray) (hs : s.size ≤ 600) : ∀ (d i : Nat), i + d = s.size → ((bl s).take i).all okB = true → ∀ (a : Nat) (out : List ByteArray), a ≤ i → out.length ≤ i →
    (out ++ (PartsP (((bl s).drop a).take (i - a)) ((bl s).drop i)).map ofL = (keepL (cutL 32 (bl s))).map ofL) →
    Ev (fun k => spec_PartsOf_L6 k (s, (a : Int), (i : Int), out, ())) (partsF s) := by
  intro d
  induction d with
  | zero =>
    intro i hi hok a out ha ho he
    have e : i = s.size := by omega
    subst e
    rw [List.take_of_length_le (by rw [bl_len]; exact Nat.le_refl _)] at hok
    rw [show (bl s).drop s.size = [] from List.drop_eq_nil_of_le (by rw [bl_len]; exact Nat.le_refl _), PartsP_nil] at he
    have fin : ∀ (b c : Int) (o : List ByteArray), (s.size : Int) < c → o = (keepL (cutL 32 (bl s))).map ofL → Ev (fun k => spec_PartsOf_L6 k (s, b, c, o, ())) (partsF s) := by
      intro b c o hc hoo
      refine Ev.step (fun q => by rw [spec_PartsOf_L6]) ?_
      refine ev_neg (by omega) ?_
      unfold partsF okLine
      rw [hok, decide_eq_true hs, ← hoo]
      have hlen : (keepL (cutL 32 (bl s))).length = o.length := by rw [hoo, List.length_map]
      rw [hlen]
      refine ev_dom (fun h => ?_) (fun h => ?_)
      · rw [if_neg (fun q => by have := q.2; omega)]; exact ev_some
      · rw [if_pos ⟨rfl, by omega⟩]; exact ev_some
    refine Ev.step (fun q => by rw [spec_PartsOf_L6]) ?_
    rw [w64_succ (by omega)]
    refine ev_pos (by omega) (ev_neg (by omega) (ev_neg (by omega) (ev_dom (fun h => ?_) (fun h => ?_))))
    · have hne : ¬ ((bl s).drop a).take (s.size - a) = [] := fun q => (piece_nil (Nat.le_refl _)).1 q (by omega)
      rw [if_neg hne] at he
      refine ev_pos (by omega) (ev_pos (by omega) (ev_pos (by omega) (ev_pos (by omega) (ev_pos (by simp only [List.length_singleton]; omega) ?_))))
      rw [ofL_extract s a s.size (by omega) (Nat.le_refl _)]
      exact fin _ _ _ (by omega) he
    · have hnil : ((bl s).drop a).take (s.size - a) = [] := (piece_nil (Nat.le_refl _)).2 (by omega)
      rw [if_pos hnil] at he
      simp only [List.map_nil, List.append_nil] at he
      exact fin _ _ _ (by omega) he
  | succ d ih =>
    intro i hi hok a out ha ho he
    have hl : i < (bl s).length := by rw [bl_len]; omega
    have e1 : (bl s).drop i = (bl s)[i] :: (bl s).drop (i + 1) := List.drop_eq_getElem_cons hl
    have b1 := byt_drop e1
    have e2 : (bl s).take (i + 1) = (bl s).take i ++ [(bl s)[i]] := by rw [List.take_succ_eq_append_getElem hl]
    have bad : ¬ okB (bl s)[i] = true → partsF s = ([], false) := fun hb => spec_parts_bad s fun q => hb (List.all_eq_true.1 q _ (List.getElem_mem hl))
    refine Ev.step (fun q => by rw [spec_PartsOf_L6]) ?_
    rw [b1, w64_succ (by omega)]
    refine ev_pos (by omega) (ev_pos (by omega) (ev_pos (by omega) (ev_pos (by omega) (ev_dom (fun h => ?_) (fun h => ?_)))))
    · rw [bad (fun q => by have := of_decide_eq_true q; omega)]; exact ev_some
    refine ev_pos (by omega) (ev_pos (by omega) (ev_dom (fun h' => ?_) (fun h' => ?_)))
    · rw [bad (fun q => by have := of_decide_eq_true q; omega)]; exact ev_some
    have hok2 : ((bl s).take (i + 1)).all okB = true := by
      rw [e2, List.all_append, hok]
      have : okB (bl s)[i] = true := decide_eq_true (by omega)
      simp [this]
    rw [e1] at he
    refine ev_pos (by omega) (ev_pos (by omega) (ev_pos (by omega) (ev_dom (fun h2 => ?_) (fun h2 => ?_))))
    · have hx : (bl s)[i] = 32 := by
        apply UInt8.toNat_inj.1
        show _ = 32
        omega
      rw [hx, PartsP_hit] at he
      refine ev_dom (fun h3 => ?_) (fun h3 => ?_)
      · have hne : ¬ ((bl s).drop a).take (i - a) = [] := fun q => (piece_nil (by omega)).1 q (by omega)
        rw [if_neg hne] at he
        refine ev_pos (by omega) (ev_pos (by omega) (ev_pos (by omega) (ev_pos (by omega) (ev_pos (by simp only [List.length_singleton]; omega) ?_))))
        rw [ofL_extract s a i ha (by omega)]
        refine ih (i + 1) (by omega) hok2 (i + 1) _ (Nat.le_refl _) (by simp only [List.length_append, List.length_singleton]; omega) ?_
        rw [Nat.sub_self, List.take_zero, ← he]
        simp
      · have hnil : ((bl s).drop a).take (i - a) = [] := (piece_nil (by omega)).2 (by omega)
        rw [if_pos hnil] at he
        refine ih (i + 1) (by omega) hok2 (i + 1) _ (Nat.le_refl _) (by omega) ?_
        rw [Nat.sub_self, List.take_zero, ← he]
        simp
    · have hx : (bl s)[i] ≠ 32 := by
        intro q
        rw [q] at h2
        exact h2 rfl
      rw [PartsP_step hx, ← take_snoc e1 ha] at he
      exact ih (i + 1) (by omega) hok2 a out (by omega) (by omega) he
theorem spec_PartsOf_eq (s : ByteArray) : g_spec_PartsOf s = some (partsF s) := by
  refine evG_eq ?_
  unfold spec_PartsOf_
  refine ev_dom (fun h => ?_) (fun h => ?_)
  · unfold partsF okLine
    rw [if_neg (fun q => by have := q.1; rw [Bool.and_eq_true] at this; have := of_decide_eq_true this.1; omega)]
    exact ev_some
  · refine spec_PartsOf_loop s (by omega) s.size 0 (by omega) rfl 0 [] (Nat.le_refl _) (Nat.le_refl _) ?_
    rw [Nat.sub_zero, List.take_zero, List.drop_zero]
    unfold PartsP
    rw [cutP_empty]
    rfl
/- spec_ReadScript -/
-- needs: impl_ReadScript spec_l20Line spec_PartsOf spec_l05Lines spec_InOk
noncomputable abbrev sL7 := spec_ReadScript_L7 (fun _ => g_spec_InOk) (fun _ => g_spec_PartsOf) (fun _ => g_spec_l05Lines) (fun _ => g_spec_l20Line)
noncomputable abbrev sL17 := spec_ReadScript_L17 (fun _ => g_spec_InOk) (fun _ => g_spec_PartsOf) (fun _ => g_spec_l05Lines) (fun _ => g_spec_l20Line)
theorem spec_rep (L : List ByteArray) (n i : Nat) (hi : i ≤ 1000000) (x : In) (out : List In) (ho : out.length + n ≤ 1000) (r : List In × Int)
    (h : Ev (fun k => sL7 k ((i : Int) + 1, [], L, out ++ List.replicate n x, ())) r) :
    ∀ (d j : Nat), j + d = n → Ev (fun k => sL17 k ((i : Int), (n : Int), (j : Int), [], L, out ++ List.replicate j x, x.1, x.2.1, x.2.2, ())) r := by
  intro d
  induction d with
  | zero =>
    intro j hj
    have e : j = n := by omega
    subst e
    refine Ev.step (fun q => by rw [sL17, spec_ReadScript_L17]) ?_
    rw [w64_succ (i := i) (by omega)]
    exact ev_neg (by omega) h
  | succ d ih =>
    intro j hj
    refine Ev.step (fun q => by rw [sL17, spec_ReadScript_L17]) ?_
    rw [w64_succ (i := j) (by omega)]
    refine ev_pos (by omega) (ev_pos (by simp only [List.length_append, List.length_replicate, List.length_singleton]; omega) ?_)
    have := ih (j + 1) (by omega)
    rw [← repl_snoc] at this
    exact this
theorem spec_rs_loop (L : List ByteArray) (hL : L.length ≤ 120) : ∀ (d i : Nat), i + d = L.length → ∀ acc : List In, acc.length ≤ 150 → Ev (fun k => sL7 k ((i : Int), [], L, acc, ())) (rsF (L.drop i) i acc) := by
  intro d
  induction d with
  | zero =>
    intro i hi acc ha
    rw [List.drop_eq_nil_of_le (by omega), rsF]
    refine Ev.step (fun q => by rw [sL7, spec_ReadScript_L7]) ?_
    exact ev_neg (by omega) ev_some
  | succ d ih =>
    intro i hi acc ha
    have hl : i < L.length := by omega
    have e1 : L.drop i = L[i] :: L.drop (i + 1) := List.drop_eq_getElem_cons hl
    have hm : L[i] ∈ L := List.getElem_mem hl
    have hp := parts_mem L[i]
    rw [e1, rsF]
    refine Ev.step (fun q => by rw [sL7, spec_ReadScript_L7]) ?_
    rw [getD_lt hl, w64_succ (by omega)]
    refine ev_pos (by omega) (ev_pos (by omega) (ev_pos (by omega) (ev_bind (spec_PartsOf_eq _) ?_)))
    by_cases h2 : (partsF L[i]).2 = true
    case neg =>
      rw [if_neg h2]
      exact ev_neg h2 (ev_neg h2 ev_some)
    rw [if_pos h2]
    generalize (partsF L[i]).1 = ps at hp
    refine ev_pos h2 ?_
    cases ps with
    | nil =>
      rw [if_pos (show skipL [] = true from rfl)]
      refine ev_pos rfl ?_
      exact ih (i + 1) (by omega) acc ha
    | cons p r =>
      have hp0 := hp p List.mem_cons_self
      have hlen : ¬ (((p :: r).length : Nat) : Int) = 0 := by simp only [List.length_cons]; omega
      have hlen2 : (0 : Int) < (((p :: r).length : Nat) : Int) := by simp only [List.length_cons]; omega
      have hg : (p :: r).getD (Int.toNat 0) (⟨#[]⟩ : ByteArray) = p := rfl
      rw [hg]
      refine ev_neg hlen (ev_pos (by decide) (ev_pos hlen2 (ev_pos (by decide) (ev_pos (by omega) (ev_dom (fun h => ?_) (fun h => ?_))))))
      · rw [if_pos (show skipL (p :: r) = true from decide_eq_true h)]
        exact ih (i + 1) (by omega) acc ha
      · rw [if_neg (show ¬ skipL (p :: r) = true from fun q => h (of_decide_eq_true q))]
        have hr := lineF_range (p :: r)
        refine ev_pos h2 (ev_bind (spec_l20Line_eq (p :: r) (by simp) (fun s hs => (hp s hs).2)) ?_)
        have hok : lineOk (p :: r) = (decide ((lineF (p :: r)).2 ≠ 0) && inOk (lineF (p :: r)).1) := rfl
        refine ev_dom (fun h3 => ?_) (fun h3 => ?_)
        · rw [if_neg (fun q => by have := q.1; rw [hok, h3] at this; cases this)]
          exact ev_some
        · rw [decide_eq_true h3, Bool.true_and] at hok
          refine ev_bind (spec_InOk_eq _) (ev_dom (fun h5 => ?_) (fun h5 => ?_))
          · rw [w64 (by omega) (by omega)]
            refine ev_dom (fun h4 => ?_) (fun h4 => ?_)
            · rw [if_neg (fun q => by have := q.2; omega)]
              exact ev_some
            · rw [if_pos ⟨hok.trans h5, by omega⟩]
              obtain ⟨n, hn⟩ : ∃ n : Nat, (lineF (p :: r)).2 = (n : Int) := ⟨_, (Int.toNat_of_nonneg hr.1).symm⟩
              rw [hn] at h4 ⊢
              rw [Int.toNat_natCast]
              have h6 := ih (i + 1) (by omega) (acc ++ List.replicate n (lineF (p :: r)).1) (by rw [List.length_append, List.length_replicate]; omega)
              have := spec_rep L n i (by omega) (lineF (p :: r)).1 acc (by omega) _ h6 n 0 (by omega)
              rw [List.replicate_zero, List.append_nil] at this
              exact this
          · rw [if_neg (fun q => h5 (hok.symm.trans q.1))]
            exact ev_some
theorem spec_ReadScript_eq (t : ByteArray) (ht : t.size ≤ 1048576) : g_spec_ReadScript t = some (readS t) := by
  refine evG_eq ?_
  unfold spec_ReadScript_ readS
  refine ev_dom (fun h => ?_) (fun h => ?_)
  · rw [if_neg (fun q => by have := q.1; omega)]; exact ev_some
  · refine ev_bind (spec_l05Lines_eq t ht) (ev_dom (fun h' => ?_) (fun h' => ?_))
    · rw [if_neg (fun q => by have := q.2; omega)]; exact ev_some
    · rw [if_pos ⟨by omega, by omega⟩]
      refine ev_bind (spec_l05Lines_eq t ht) ?_
      have := spec_rs_loop (linesF t) (by omega) (linesF t).length 0 (by omega) [] (by decide)
      exact this
/- laws_FnExactReadScript -/
-- needs: impl_ReadScript spec_ReadScript laws_heldInS laws_eqInS
theorem rsF_len : ∀ (L : List ByteArray) (i : Nat) (acc : List In), acc.length ≤ 150 → (rsF L i acc).1.length ≤ 150
  | [], i, acc, h => by rw [rsF]; exact h
  | l :: r, i, acc, h => by
    rw [rsF]
    have hr := lineF_range (partsF l).1
    split
    · split
      · exact rsF_len r _ _ h
      · split
        · rename_i h3
          refine rsF_len r _ _ ?_
          rw [List.length_append, List.length_replicate]
          have := h3.2
          omega
        · exact Nat.zero_le _
    · exact Nat.zero_le _
theorem readS_len (t : ByteArray) : (readS t).1.length ≤ 150 := by
  unfold readS
  split
  · exact rsF_len _ _ _ (by decide)
  · exact Nat.zero_le _
theorem t_FnExactReadScript (t : ByteArray) : g_laws_FnExactReadScript t = some true := by
  unfold g_laws_FnExactReadScript laws_FnExactReadScript_
  by_cases h : 1048576 < ((t.size : Nat) : Int)
  · simp only [if_pos h]
  · have ht : t.size ≤ 1048576 := by omega
    have hl := readS_len t
    simp only [if_neg h, spec_ReadScript_eq t ht, impl_ReadScript_eq t ht, Option.bind_some]
    have e1 := laws_eqInS_refl (readS t).1 (by omega)
    have e2 := laws_markInS_eq (readS t).1 (by omega)
    have e3 := laws_heldInS_eq (readS t).1.length 1 (by omega) (by omega)
    simp only [e1, e2, e3, Option.bind_some, if_true]
    have c : ¬ (1 + 3 * ((readS t).1.length : Int) < 0) := by omega
    simp only [if_neg c]
end Go.Sx.T
