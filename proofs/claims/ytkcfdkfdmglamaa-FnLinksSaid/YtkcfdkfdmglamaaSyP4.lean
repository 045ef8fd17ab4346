/- The device: what the functions come to. -/
import Derived.Test.YtkcfdkfdmglamaaSyP3
set_option linter.unusedVariables false
set_option linter.unusedSimpArgs false
namespace Go.Sx
open Go.RowKit (wrap64)
/-- A loop that fills a new list, place by place. -/
theorem map_loop {α : Type} (z : α) (l : List α) (L : Nat → List α → Int → Option (List α)) (done : ∀ out, Ev (fun k => L k out (l.length : Int)) out)
    (step : ∀ (i : Nat) (x : α) (out : List α) (r : List α), l[i]? = some x → i < l.length → out.length = l.length → Ev (fun k => L k (out.set i x) ((i : Int) + 1)) r → Ev (fun k => L k out (i : Int)) r) :
    Ev (fun k => L k (List.replicate l.length z) 0) l := by
  have key : ∀ (suf pre : List α), l = pre ++ suf → Ev (fun k => L k (pre ++ List.replicate suf.length z) (pre.length : Int)) l := by
    intro suf
    induction suf with
    | nil =>
      intro pre h
      have := done pre
      simp only [List.append_nil] at h
      subst h
      simpa using this
    | cons x suf ih =>
      intro pre h
      have h1 := ih (pre ++ [x]) (by rw [h]; simp)
      have hlen : l.length = pre.length + (suf.length + 1) := by rw [h]; simp
      refine step pre.length x _ _ (by rw [h]; simp) (by omega) (by simp [hlen]) ?_
      have e : (pre ++ List.replicate (x :: suf).length z).set pre.length x = (pre ++ [x]) ++ List.replicate suf.length z := by
        rw [List.set_append_right _ _ (by simp)]
        simp [List.replicate_succ]
      rw [e]
      simpa using h1
  simpa using key l [] rfl
abbrev Tick := Int × Int × Int
abbrev In := Int × ByteArray × ByteArray
abbrev Device := Int × Int × Int × Int × Int × Int × Int × Int × List Int × Int × Int × Bool × Int × Int × ByteArray × (List (Int × (Int × Int))) × Int
def Device.pump (d : Device) : Pump := match d with
  | (s, n, e, r, l, b, g, k, _) => (s, n, e, r, l, b, g, k)
def Device.past (d : Device) : List Int := d.2.2.2.2.2.2.2.2.1
def Device.alarm (d : Device) : Int := d.2.2.2.2.2.2.2.2.2.1
def Device.menu (d : Device) : Menu := match d with
  | (_, _, _, _, _, _, _, _, _, _, a, b, n, e, s, _) => (a, b, n, e, s)
def Device.ticks (d : Device) : List Tick := d.2.2.2.2.2.2.2.2.2.2.2.2.2.2.2.1
def Device.refused (d : Device) : Int := d.2.2.2.2.2.2.2.2.2.2.2.2.2.2.2.2
/-- A device, put together. -/
def dev (p : Pump) (past : List Int) (alarm : Int) (m : Menu) (ts : List Tick) (ref : Int) : Device :=
  (p.1, p.2.1, p.2.2.1, p.2.2.2.1, p.2.2.2.2.1, p.2.2.2.2.2.1, p.2.2.2.2.2.2.1, p.2.2.2.2.2.2.2, past, alarm, m.1, m.2.1, m.2.2.1, m.2.2.2.1, m.2.2.2.2, ts, ref)
def deviceOk (p : Pump) (past : List Int) (alarm : Int) (m : Menu) (ts : List Tick) (ref : Int) : Bool :=
  pumpOk p && (guardOk past alarm && (menuOk m && (decide (ts.length ≤ 200) && decide (0 ≤ ref ∧ ref ≤ 1000000000))))
theorem dev_eta (d : Device) : ∃ p past alarm m ts ref, d = dev p past alarm m ts ref := by
  obtain ⟨s, n, e, r, l, b, g, k, past, alarm, a, bo, nu, de, di, ts, ref⟩ := d
  exact ⟨(s, n, e, r, l, b, g, k), past, alarm, (a, bo, nu, de, di), ts, ref, rfl⟩
/-- What a device holds is not too long. -/
def Short (d : Device) : Prop := d.2.2.2.2.2.2.2.2.1.length ≤ 1048576 ∧ d.2.2.2.2.2.2.2.2.2.2.2.2.2.2.1.size ≤ 1048576 ∧ d.2.2.2.2.2.2.2.2.2.2.2.2.2.2.2.1.length ≤ 1048576
theorem deviceOk_den {p : Pump} {past : List Int} {alarm : Int} {m : Menu} {ts : List Tick} {ref : Int} (h : deviceOk p past alarm m ts ref = true) : pumpOk p = true ∧ guardOk past alarm = true ∧ menuOk m = true ∧ ts.length ≤ 200 ∧ 0 ≤ ref ∧ ref ≤ 1000000000 := by
  unfold deviceOk at h
  simp only [Bool.and_eq_true, decide_eq_true_eq] at h
  exact ⟨h.1, h.2.1, h.2.2.1, h.2.2.2.1, h.2.2.2.2⟩
theorem deviceOk_mk {p : Pump} {past : List Int} {alarm : Int} {m : Menu} {ts : List Tick} {ref : Int} (h1 : pumpOk p = true) (h2 : guardOk past alarm = true) (h3 : menuOk m = true) (h4 : ts.length ≤ 200) (h5 : 0 ≤ ref ∧ ref ≤ 1000000000) : deviceOk p past alarm m ts ref = true := by
  unfold deviceOk
  rw [h1, h2, h3, decide_eq_true h4, decide_eq_true h5]; rfl
theorem menu_size {m : Menu} (h : menuOk m = true) : m.2.2.2.2.size ≤ 4 := by
  obtain ⟨a, b, n, d, s⟩ := m
  exact (menuOk_den h).2.2.2.2.1
/-! ### ticks -/
def bnd (n : Int) : Int := min (max n (-1000000000000)) 1000000000000
def addSat (a b : Int) : Int := bnd (bnd a + bnd b)
theorem bnd_range (n : Int) : -1000000000000 ≤ bnd n ∧ bnd n ≤ 1000000000000 := by unfold bnd; omega
theorem bnd_id {n : Int} (h : -1000000000000 ≤ n ∧ n ≤ 1000000000000) : bnd n = n := by unfold bnd; omega
theorem w64_bnd (a b : Int) : wrap64 (bnd a + bnd b) = bnd a + bnd b := by
  have := bnd_range a; have := bnd_range b
  exact w64 (by omega) (by omega)
def totalF : List Tick → Int → Int
  | [], s => s
  | t :: r, s => totalF r (addSat s t.1)
def stops (l : List Tick) : Bool := l.all fun t => decide (t.2.1 = 0 ∨ t.1 = 0)
theorem stops_cons (t : Tick) (l : List Tick) : stops (t :: l) = (decide (t.2.1 = 0 ∨ t.1 = 0) && stops l) := by simp [stops]
def winF : List Tick → Int → Bool
  | [], _ => true
  | t :: r, s => if 30 < addSat s t.1 then false else winF r (addSat s t.1)
def limF : List Tick → Bool
  | [] => true
  | t :: r => winF ((t :: r).take 10) 0 && limF r
def sound (p : Pump) (past : List Int) (alarm : Int) (m : Menu) (ts : List Tick) (ref : Int) : Bool :=
  deviceOk p past alarm m ts ref && (limF ts && (stops ts && decide (p.2.2.2.2.2.2.1 = totalF ts 0)))
end Go.Sx
