/- Alarms that are held over many ticks. -/
import Derived.Test.YtkcfdkfdmglamaaSyP8
set_option linter.unusedVariables false
set_option linter.unusedSimpArgs false
namespace Go.Sx
open Go.RowKit (wrap64)
/-- One tick's alarm, beside what was felt and the alarm ahead. -/
def latC (al bits ahead : Int) (seen : Bool) : Bool := senseOk bits && (senseOk al && (decide (ior .i64 al bits = al) && (seen || decide (ior .i64 al ahead = al))))
def latF : List Tick → List In → Menu → Int → Bool
  | t :: ts, i :: is, m, a => latC t.2.1 i.1 a (seenF (ordersOf m i).2) && latF ts is (ordersOf m i).1 t.2.1
  | _, _, _, _ => true
def latched (ts : List Tick) (is : List In) : Bool := decide (ts.length = is.length) && latF ts is menuNew 0
/-- The ticks that are put to a device's. -/
def newT : Device → List In → List Tick
  | _, [] => []
  | d, i :: l => (allow d.past (feel d.past d.alarm i.1 (seenF (ordersOf d.menu i).2)) (wants (behind d.pump d.menu d.refused i).1), feel d.past d.alarm i.1 (seenF (ordersOf d.menu i).2), (tickP (behind d.pump d.menu d.refused i).1 d.past (feel d.past d.alarm i.1 (seenF (ordersOf d.menu i).2))).1) :: newT (tick d i) l
theorem tick_live {n : Nat} {d : Device} (h : Life n d) {i : In} (hi : inOk i = true) (hn : n < 150) :
    (tick d i).ticks = d.ticks ++ newT d [i] ∧ (tick d i).menu = (ordersOf d.menu i).1 ∧ (tick d i).alarm = feel d.past d.alarm i.1 (seenF (ordersOf d.menu i).2) := by
  obtain ⟨p, past, alarm, m, ts, ref, rfl, hd⟩ := h.ok
  have hlen : ts.length = n := h.len
  have href : ref ≤ 22 * (n : Int) := h.ref
  rw [tick_dev, tickD_live hd hi (by omega) (by omega)]
  exact ⟨rfl, rfl, rfl⟩
theorem foldl_ticks : ∀ (l : List In) {n : Nat} {d : Device}, Life n d → l.all inOk = true → n + l.length ≤ 150 → (l.foldl tick d).ticks = d.ticks ++ newT d l
  | [], _, d, _, _, _ => by simp [newT]
  | i :: l, n, d, h, hi, hn => by
    have hi : (inOk i && l.all inOk) = true := hi
    rw [Bool.and_eq_true] at hi
    simp only [List.length_cons] at hn
    have := foldl_ticks l (h.tick hi.1 (by omega)) hi.2 (by omega)
    rw [List.foldl_cons, this, (tick_live h hi.1 (by omega)).1, List.append_assoc]
    rfl
theorem newT_len : ∀ (d : Device) (l : List In), (newT d l).length = l.length
  | _, [] => rfl
  | d, i :: l => by
    have := newT_len (tick d i) l
    simp only [newT, List.length_cons, this]
theorem or_has : ∀ a b : _root_.Fin 16, (decide (ior .i64 (ior .i64 (a.val : Int) (b.val : Int)) (b.val : Int) = ior .i64 (a.val : Int) (b.val : Int)) && (decide (ior .i64 (ior .i64 (a.val : Int) (b.val : Int)) (a.val : Int) = ior .i64 (a.val : Int) (b.val : Int)) && decide (ior .i64 (b.val : Int) (b.val : Int) = (b.val : Int)))) = true := by decide +kernel
theorem senseOk_den {a : Int} (h : senseOk a = true) : 0 ≤ a ∧ a ≤ 15 := of_decide_eq_true h
theorem or_has' {a b : Int} (ha : senseOk a = true) (hb : senseOk b = true) : ior .i64 (ior .i64 a b) b = ior .i64 a b ∧ ior .i64 (ior .i64 a b) a = ior .i64 a b ∧ ior .i64 b b = b := by
  have ha := senseOk_den ha
  have hb := senseOk_den hb
  have h := or_has ⟨a.toNat, by omega⟩ ⟨b.toNat, by omega⟩
  simp only [Int.toNat_of_nonneg ha.1, Int.toNat_of_nonneg hb.1, Bool.and_eq_true, decide_eq_true_eq] at h
  exact h
theorem latC_feel {past : List Int} {alarm bits : Int} {seen : Bool} (h : guardOk past alarm = true) (hb : senseOk bits = true) : latC (feel past alarm bits seen) bits alarm seen = true := by
  have ha := (guardOk_den h).2.2.2
  obtain ⟨o1, o2, o3⟩ := or_has' ha hb
  unfold latC feel
  rw [if_pos ⟨h, hb⟩, hb]
  cases seen with
  | true =>
    rw [if_pos rfl, hb, decide_eq_true o3]; rfl
  | false =>
    rw [if_neg (by simp), senseOk_or ha hb, decide_eq_true o1, decide_eq_true o2]; rfl
theorem latF_newT : ∀ (l : List In) {n : Nat} {d : Device}, Life n d → l.all inOk = true → n + l.length ≤ 150 → latF (newT d l) l d.menu d.alarm = true
  | [], _, _, _, _, _ => rfl
  | i :: l, n, d, h, hi, hn => by
    have hi : (inOk i && l.all inOk) = true := hi
    rw [Bool.and_eq_true] at hi
    simp only [List.length_cons] at hn
    have ih := latF_newT l (h.tick hi.1 (by omega)) hi.2 (by omega)
    obtain ⟨_, e2, e3⟩ := tick_live h hi.1 (by omega)
    rw [e2, e3] at ih
    have hg : guardOk d.past d.alarm = true := by
      obtain ⟨p, past, alarm, m, ts, ref, rfl, hd⟩ := h.ok
      exact (deviceOk_den hd).2.1
    have hc := latC_feel (seen := seenF (ordersOf d.menu i).2) hg (inOk_den hi.1).1
    show (latC _ i.1 d.alarm _ && latF (newT (tick d i) l) l (ordersOf d.menu i).1 _) = true
    rw [hc, ih]; rfl
theorem latched_run {l : List In} (hi : l.all inOk = true) (hn : l.length ≤ 150) : latched (l.foldl tick devNew).ticks l = true := by
  have e := foldl_ticks l life_new hi (by omega)
  have h := latF_newT l life_new hi (by omega)
  have e0 : devNew.ticks = [] := rfl
  rw [e0, List.nil_append] at e
  unfold latched
  rw [e, newT_len, decide_eq_true rfl]
  exact h
theorem and_or : ∀ a b c : _root_.Fin 16, (decide (iand .i64 (a.val : Int) (ior .i64 (b.val : Int) (c.val : Int)) = ior .i64 (b.val : Int) (c.val : Int)) == (decide (ior .i64 (a.val : Int) (b.val : Int) = (a.val : Int)) && decide (ior .i64 (a.val : Int) (c.val : Int) = (a.val : Int)))) = true := by decide +kernel
theorem and_same : ∀ a b : _root_.Fin 16, (decide (iand .i64 (a.val : Int) (b.val : Int) = (b.val : Int)) == decide (ior .i64 (a.val : Int) (b.val : Int) = (a.val : Int))) = true := by decide +kernel
theorem and_same' {a b : Int} (ha : senseOk a = true) (hb : senseOk b = true) : decide (iand .i64 a b = b) = decide (ior .i64 a b = a) := by
  have ha := senseOk_den ha
  have hb := senseOk_den hb
  have h := and_same ⟨a.toNat, by omega⟩ ⟨b.toNat, by omega⟩
  simp only [Int.toNat_of_nonneg ha.1, Int.toNat_of_nonneg hb.1] at h
  exact eq_of_beq h
theorem and_or' {a b c : Int} (ha : senseOk a = true) (hb : senseOk b = true) (hc : senseOk c = true) : decide (iand .i64 a (ior .i64 b c) = ior .i64 b c) = (decide (ior .i64 a b = a) && decide (ior .i64 a c = a)) := by
  have ha := senseOk_den ha
  have hb := senseOk_den hb
  have hc := senseOk_den hc
  have h := and_or ⟨a.toNat, by omega⟩ ⟨b.toNat, by omega⟩ ⟨c.toNat, by omega⟩
  simp only [Int.toNat_of_nonneg ha.1, Int.toNat_of_nonneg hb.1, Int.toNat_of_nonneg hc.1] at h
  exact eq_of_beq h
end Go.Sx
