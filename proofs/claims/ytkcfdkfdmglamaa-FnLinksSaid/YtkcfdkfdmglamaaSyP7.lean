/- One tick of the device: what it comes to. -/
import Derived.Test.YtkcfdkfdmglamaaSyP6
set_option linter.unusedVariables false
set_option linter.unusedSimpArgs false
namespace Go.Sx
open Go.RowKit (wrap64)
def inOk (i : In) : Bool := senseOk i.1 && (decide (i.2.1.size ≤ 20) && decide (i.2.2.size ≤ 40))
def seenF (os : List Order) : Bool := os.any fun o => decide (o.1 = 5)
def ordersOf (m : Menu) (i : In) : Menu × List Order :=
  if (readO i.2.2).2 = true then ((pressAll m i.2.1).1, (pressAll m i.2.1).2 ++ [(readO i.2.2).1]) else pressAll m i.2.1
def takeO (p : Pump) (o : Order) : Pump × Bool := if o.1 = 5 then (p, true) else take p o
def takeL : List Order → Pump → Int → Pump × Int
  | [], p, r => (p, r)
  | o :: os, p, r => takeL os (takeO p o).1 (if (takeO p o).2 = true then r else r + 1)
/-- The pump and the number of refusals behind the orders. -/
def behind (p : Pump) (m : Menu) (ref : Int) (i : In) : Pump × Int :=
  ((takeL (ordersOf m i).2 p ref).1, if i.2.2.size ≠ 0 ∧ (readO i.2.2).2 = false then (takeL (ordersOf m i).2 p ref).2 + 1 else (takeL (ordersOf m i).2 p ref).2)
def tickP (q : Pump) (past : List Int) (al : Int) : Pump := if al = 0 then give q (allow past al (wants q)) else q
def tickD (p : Pump) (past : List Int) (alarm : Int) (m : Menu) (ts : List Tick) (ref : Int) (i : In) : Device :=
  if deviceOk p past alarm m ts ref = true ∧ inOk i = true ∧ ts.length ≠ 200 ∧ ref ≤ 999999900 then
    (let al := feel past alarm i.1 (seenF (ordersOf m i).2)
     let q := (behind p m ref i).1
     let n := allow past al (wants q)
     dev (tickP q past al) (pass past al n) al (ordersOf m i).1 (ts ++ [(n, al, (tickP q past al).1)]) (behind p m ref i).2)
  else dev p past alarm m ts ref
theorem inOk_den {i : In} (h : inOk i = true) : senseOk i.1 = true ∧ i.2.1.size ≤ 20 ∧ i.2.2.size ≤ 40 := by
  unfold inOk at h
  simp only [Bool.and_eq_true, decide_eq_true_eq] at h
  exact h
theorem ordersOf_len (m : Menu) (i : In) : (ordersOf m i).2.length ≤ i.2.1.size + 1 := by
  have h := pressAll_len m i.2.1
  unfold ordersOf
  split
  · simp only [List.length_append, List.length_singleton]; omega
  · omega
theorem ordersOf_menu (m : Menu) (i : In) : (ordersOf m i).1 = (pressAll m i.2.1).1 := by
  unfold ordersOf
  split <;> rfl
theorem takeO_ok {p : Pump} (o : Order) (h : pumpOk p = true) : pumpOk (takeO p o).1 = true := by
  unfold takeO
  split
  · exact h
  · exact take_ok o h
theorem takeL_ok : ∀ (os : List Order) (p : Pump) (r : Int), pumpOk p = true → pumpOk (takeL os p r).1 = true ∧ r ≤ (takeL os p r).2 ∧ (takeL os p r).2 ≤ r + os.length
  | [], p, r, h => ⟨h, Int.le_refl _, by simp [takeL]⟩
  | o :: os, p, r, h => by
    obtain ⟨h1, h2, h3⟩ := takeL_ok os (takeO p o).1 (if (takeO p o).2 = true then r else r + 1) (takeO_ok o h)
    refine ⟨h1, ?_, ?_⟩
    · refine Int.le_trans ?_ h2
      split <;> omega
    · refine Int.le_trans h3 ?_
      simp only [List.length_cons]
      split <;> omega
theorem behind_ok {p : Pump} {m : Menu} {ref : Int} {i : In} (h : pumpOk p = true) (hi : inOk i = true) : pumpOk (behind p m ref i).1 = true ∧ ref ≤ (behind p m ref i).2 ∧ (behind p m ref i).2 ≤ ref + 22 := by
  obtain ⟨h1, h2, h3⟩ := takeL_ok (ordersOf m i).2 p ref h
  have h4 := ordersOf_len m i
  have h5 := (inOk_den hi).2.1
  refine ⟨h1, ?_, ?_⟩
  · unfold behind
    simp only []
    split <;> omega
  · unfold behind
    simp only []
    split <;> omega
theorem tickP_ok {q : Pump} (past : List Int) (al : Int) (h : pumpOk q = true) : pumpOk (tickP q past al) = true := by
  unfold tickP
  split
  · exact give_ok _ h
  · exact h
/-- A right device stays right. -/
theorem tickD_ok {p : Pump} {past : List Int} {alarm : Int} {m : Menu} {ts : List Tick} {ref : Int} (i : In) (h : deviceOk p past alarm m ts ref = true) :
    ∃ p' past' alarm' m' ts' ref', tickD p past alarm m ts ref i = dev p' past' alarm' m' ts' ref' ∧ deviceOk p' past' alarm' m' ts' ref' = true := by
  unfold tickD
  split
  · rename_i hc
    obtain ⟨h1, h2, h3, h4, h5, h6⟩ := deviceOk_den h
    obtain ⟨b1, b2, b3⟩ := behind_ok (m := m) (ref := ref) h1 hc.2.1
    have hg := guardOk_feel i.1 (seenF (ordersOf m i).2) h2
    have hm := (pressAll_ok h3 i.2.1).1
    refine ⟨_, _, _, _, _, _, rfl, deviceOk_mk (tickP_ok _ _ b1) (guardOk_pass _ hg) ?_ ?_ ⟨by omega, by omega⟩⟩
    · rw [ordersOf_menu]; exact hm
    · simp only [List.length_append, List.length_singleton]
      omega
  · exact ⟨_, _, _, _, _, _, rfl, h⟩
/-! ### the device over many ticks -/
def tick (d : Device) (i : In) : Device := tickD d.pump d.past d.alarm d.menu d.ticks d.refused i
def devNew : Device := dev (0, 0, 1, 0, 0, 0, 0, 0) [] 0 menuNew [] 0
def devZero : Device := dev (0, 0, 0, 0, 0, 0, 0, 0) [] 0 (0, false, 0, 0, ⟨#[]⟩) [] 0
def DOk (d : Device) : Prop := ∃ p past alarm m ts ref, d = dev p past alarm m ts ref ∧ deviceOk p past alarm m ts ref = true
theorem tick_dev (p : Pump) (past : List Int) (alarm : Int) (m : Menu) (ts : List Tick) (ref : Int) (i : In) : tick (dev p past alarm m ts ref) i = tickD p past alarm m ts ref i := rfl
theorem DOk.tick {d : Device} (i : In) (h : DOk d) : DOk (tick d i) := by
  obtain ⟨p, past, alarm, m, ts, ref, rfl, h⟩ := h
  rw [tick_dev]
  exact tickD_ok i h
theorem devNew_ok : DOk devNew := ⟨_, _, _, _, _, _, rfl, deviceOk_mk pumpNew_ok rfl menuNew_ok (Nat.zero_le _) (by omega)⟩
theorem DOk.foldl : ∀ (l : List In) {d : Device}, DOk d → DOk (l.foldl Go.Sx.tick d)
  | [], _, h => h
  | i :: l, _, h => DOk.foldl l (h.tick i)
def runD (l : List In) : Device × Bool := if 150 < l.length then (devZero, false) else if l.all inOk = true then (l.foldl tick devNew, true) else (devZero, false)
end Go.Sx
