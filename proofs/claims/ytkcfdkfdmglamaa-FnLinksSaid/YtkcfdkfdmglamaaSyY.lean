/- The order of a region that draws is open: in every order it comes to the same. -/
import Derived.Test.YtkcfdkfdmglamaaSyX
set_option linter.unusedVariables false
set_option linter.unusedSimpArgs false
namespace Go.Sx
def gOn (ops : List Oper) (tm : Nat → SV) (o : Oper) : Prop := o.guard = none ∨ ∃ g want d s, o.guard = some (g, want) ∧ (ops[g]?).bind (·.dst) = some d ∧ tm d = .a false [.bool s] ∧ s.b = want
def gOff (ops : List Oper) (tm : Nat → SV) (o : Oper) : Prop := ∃ g want d, o.guard = some (g, want) ∧ (ops[g]?).bind (·.dst) = some d ∧ ((∃ s, tm d = .a false [.bool s] ∧ s.b ≠ want) ∨ ∃ xs, tm d = .tup xs)
def Eff (C : Ctx) (av : Av) (ops : List Oper) (o : Oper) (nm : Nat) (tm : Nat → SV) (hp : Hp) (v : SV) (hp1 : Hp) : Prop :=
  (gOn ops tm o ∧ WaysE C av o.op (ev tm) nm hp v hp1) ∨ (gOff ops tm o ∧ v = .tup [] ∧ hp1 = hp)
section
variable {C : Ctx} {av : Av} {ops : List Oper} {o : Oper} {nm : Nat} {tm : Nat → SV} {hp hp' hp1 hp2 : Hp} {v : SV}
theorem step_eff {i : Nat} {σ σ' : St} : Step C av ops i σ σ' ↔ ∃ o v hp1, ops[i]? = some o ∧ (∀ d, o.dst = some d → d < C.N) ∧ Eff C av ops o (σ.nx + 8 * i) σ.tm σ.hp v hp1 ∧ σ' = ⟨putT σ.tm o.dst v, hp1, σ.nx⟩ := by
  constructor
  · intro h
    cases h with
    | go o ho hg v hp hw hd => exact ⟨o, v, hp, ho, hd, .inl ⟨hg, ways_e.1 hw⟩, rfl⟩
    | skip o ho g want d hg hdd hs hd => exact ⟨o, .tup [], σ.hp, ho, hd, .inr ⟨⟨g, want, d, hg, hdd, hs⟩, rfl, rfl⟩, rfl⟩
  · rintro ⟨o, v, hp1, ho, hd, he, rfl⟩
    rcases he with ⟨hg, hw⟩ | ⟨⟨g, want, d, hg, hdd, hs⟩, rfl, rfl⟩
    · exact .go o ho hg v hp1 (ways_e.2 hw) hd
    · exact .skip o ho g want d hg hdd hs hd
theorem putT_at {dst : Option Tmp} {u : SV} {t : Nat} (h : ∀ d, dst = some d → t ≠ d) : putT tm dst u t = tm t := by
  cases dst with
  | none => rfl
  | some d => exact upd_other _ _ (h d rfl)
theorem eff_tm {tm' : Nat → SV} (h : ∀ t, t ∈ o.looksAt ops.toArray → tm' t = tm t) (he : Eff C av ops o nm tm hp v hp1) : Eff C av ops o nm tm' hp v hp1 := by
  have hgd : ∀ g want d, o.guard = some (g, want) → (ops[g]?).bind (·.dst) = some d → tm' d = tm d := fun g want d hg hd => h d (by
    unfold Oper.looksAt
    refine List.mem_append_right _ ?_
    rw [hg]
    have : (ops.toArray[g]?).bind (·.dst) = some d := by simpa using hd
    simp only []
    rw [this]
    simp)
  rcases he with ⟨hg, hw⟩ | ⟨⟨g, want, d, hg, hd, hs⟩, rfl, rfl⟩
  · refine .inl ⟨?_, ways_congr (fun x hx => ?_) hw⟩
    · rcases hg with hg | ⟨g, want, d, s, hg, hd, hs, hb⟩
      · exact .inl hg
      · exact .inr ⟨g, want, d, s, hg, hd, by rw [hgd g want d hg hd]; exact hs, hb⟩
    · cases x with
      | tmp t => exact (h t (List.mem_append_left _ (List.mem_filterMap.2 ⟨.tmp t, by simpa using hx, rfl⟩))).symm
      | _ => rfl
  · exact .inr ⟨⟨g, want, d, hg, hd, by rw [hgd g want d hg hd]; exact hs⟩, rfl, rfl⟩
theorem beq_nat {a b : Nat} (h : Nat.beq a b = true) : a = b := Nat.eq_of_beq_eq_true h
theorem hop_fc {P : Program} {m : Bool} {oi oj : Oper} (h : hop P m oi oj = true) : isFc oi.op = true := by
  unfold hop at h
  rw [Bool.and_eq_true, Bool.and_eq_true] at h
  exact h.2.1
theorem swap_eff {m : Bool} {avi avj : Av} {oi oj : Oper} {ni nj : Nat} {v1 v2 : SV} (hm : (may (cls C.P oi.op) (cls C.P oj.op) || hop C.P m oi oj) = true) (hav : rwm C.P m oi oj = true → ∃ S, avi = some S ∧ avj = some S ∧ (hop C.P m oi oj = true → ∀ q, ni ≤ q → q < ni + 8 → memN q S = true))
    (hn : ni + 8 ≤ nj ∨ nj + 8 ≤ ni) (h1 : Eff C avi ops oi ni tm hp v1 hp1) (h2 : Eff C avj ops oj nj tm hp1 v2 hp2) :
    ∃ hp1', Eff C avj ops oj nj tm hp v2 hp1' ∧ Eff C avi ops oi ni tm hp1' v1 hp2 := by
  rcases h1 with ⟨g1, w1⟩ | ⟨g1, rfl, rfl⟩
  case inr => exact ⟨hp2, h2, .inr ⟨g1, rfl, rfl⟩⟩
  rcases h2 with ⟨g2, w2⟩ | ⟨g2, rfl, rfl⟩
  case inr => exact ⟨hp, .inr ⟨g2, rfl, rfl⟩, .inl ⟨g1, w1⟩⟩
  rcases cls_all C.P oi.op with ci | ci | ci
  · obtain ⟨rfl, k⟩ := ways0 ci w1
    exact ⟨hp2, .inl ⟨g2, w2⟩, .inl ⟨g1, k _ _ _⟩⟩
  · obtain ⟨rfl, k⟩ := ways1 ci w1
    refine ⟨hp2, .inl ⟨g2, w2⟩, .inl ⟨g1, k _ _ ?_⟩⟩
    rcases cls_all C.P oj.op with cj | cj | cj | cj
    · obtain ⟨rfl, _⟩ := ways0 cj w2; exact fun _ _ _ => rfl
    · obtain ⟨rfl, _⟩ := ways1 cj w2; exact fun _ _ _ => rfl
    · obtain ⟨hf, E, hE, rfl, _⟩ := ways2 cj w2; exact (grows_upd hf E).sees _
    · obtain ⟨S, rfl, rfl, _⟩ := hav (by unfold rwm; rw [Bool.or_eq_true]; refine .inl ?_; rcases cj with cj | cj <;> rw [ci, cj] <;> rfl)
      exact sees_keeps (ways34 cj w2).1
  · rcases cls_all C.P oj.op with cj | cj | cj | cj
    · obtain ⟨rfl, k⟩ := ways0 cj w2
      exact ⟨hp, .inl ⟨g2, k _ _ _⟩, .inl ⟨g1, w1⟩⟩
    · have hh : hop C.P m oi oj = true := by
        rw [Bool.or_eq_true] at hm
        rcases hm with hm | hm
        · exfalso
          rcases ci with ci | ci | ci <;> rw [ci, cj] at hm <;> cases hm
        · exact hm
      obtain ⟨S, rfl, rfl, hS⟩ := hav (by unfold rwm; rw [hh, Bool.or_true])
      obtain ⟨rfl, k⟩ := ways1 cj w2
      exact ⟨hp, .inl ⟨g2, k _ _ (sees_back (hop_fc hh) w1 (hS hh))⟩, .inl ⟨g1, w1⟩⟩
    · obtain ⟨hf, E, hE, rfl, k⟩ := ways2 cj w2
      have hboth : (∀ n, hp n ≠ .free → hp1 n ≠ .free) ∧ ∀ q E, hp q = .free → (q < ni ∨ ni + 8 ≤ q) → WaysE C avi oi.op (ev tm) ni (upd hp q E) v1 (upd hp1 q E) := by
        rcases ci with ci | ci
        · obtain ⟨hf1, E1, hE1, rfl, k1⟩ := ways2 ci w1
          refine ⟨(Keeps.fresh (av := none) hf1).lives, fun q E hq hqq => ?_⟩
          have hne : ni ≠ q := by omega
          rw [upd_comm hne]
          exact k1 _ _ (by rw [upd_other _ _ hne]; exact hf1)
        · exact ⟨(ways34 ci w1).1.lives, (ways34 ci w1).2⟩
      have hf0 : hp nj = .free := by
        cases hh : hp nj with
        | free => rfl
        | _ => exact absurd hf (hboth.1 nj (by rw [hh]; simp))
      exact ⟨upd hp nj E, .inl ⟨g2, k _ _ hf0⟩, .inl ⟨g1, hboth.2 nj E hf0 (by omega)⟩⟩
    · exfalso
      have hh : hop C.P m oi oj = false := by unfold hop; rcases cj with cj | cj <;> rw [cj] <;> simp [Nat.beq]
      rw [hh, Bool.or_false] at hm
      rcases ci with ci | ci | ci <;> rcases cj with cj | cj <;> rw [ci, cj] at hm <;> cases hm
theorem putT_comm {a b : Option Tmp} (h : ∀ d, a = some d → b ≠ some d) (x y : SV) : putT (putT tm a x) b y = putT (putT tm b y) a x := by
  cases a with
  | none => rfl
  | some d =>
    cases b with
    | none => rfl
    | some d' => exact upd_comm (fun e => h d rfl (by rw [e])) x y
theorem swap_step {m : Bool} {av : Nat → Av} {lo S : List Nat} (hav : av = avf lo S) {i j : Nat} {oi oj : Oper} {σ σ1 σ2 : St} (hfr : ∀ i oi, ops[i]? = some oi → isFc oi.op = true → memN i lo = true → m = true → ∀ q, σ.nx + 8 * i ≤ q → q < σ.nx + 8 * i + 8 → memN q S = true) (hi : ops[i]? = some oi) (hj : ops[j]? = some oj) (hne : i ≠ j) (hp : pairOk C.P m ops lo i j oi oj = true)
    (h1 : Step C (av i) ops i σ σ1) (h2 : Step C (av j) ops j σ1 σ2) : ∃ σ1', Step C (av j) ops j σ σ1' ∧ Step C (av i) ops i σ1' σ2 := by
  unfold pairOk at hp
  rw [Bool.and_eq_true, Bool.and_eq_true] at hp
  obtain ⟨hm, hap, hrw⟩ := hp
  obtain ⟨a1, a2, a3⟩ := Oper.apart_spec hap
  obtain ⟨o, v1, hp1, ho, hd1, e1, rfl⟩ := step_eff.1 h1
  rw [hi] at ho
  injection ho with ho
  subst ho
  obtain ⟨o, v2, hp2, ho, hd2, e2, rfl⟩ := step_eff.1 h2
  rw [hj] at ho
  injection ho with ho
  subst ho
  have e2' : Eff C (av j) ops oj (σ.nx + 8 * j) σ.tm hp1 v2 hp2 := eff_tm (fun t ht => (putT_at fun d hd e => a1 d hd (by rw [← e]; exact ht)).symm) e2
  obtain ⟨hp1', f1, f2⟩ := swap_eff hm (fun hr => by
    rw [hr] at hrw
    have hrw : (memN i lo && memN j lo) = true := by simpa using hrw
    rw [Bool.and_eq_true] at hrw
    exact ⟨S, by rw [hav]; unfold avf; rw [hrw.1]; rfl, by rw [hav]; unfold avf; rw [hrw.2]; rfl, fun hh => hfr i oi hi (hop_fc hh) hrw.1 (by unfold hop at hh; rw [Bool.and_eq_true] at hh; exact hh.1)⟩) (by omega) e1 e2'
  refine ⟨_, step_eff.2 ⟨oj, v2, hp1', hj, hd2, f1, rfl⟩, step_eff.2 ⟨oi, v1, hp2, hi, hd1, eff_tm (fun t ht => putT_at fun d hd e => a3 d hd (by rw [← e]; exact ht)) f2, ?_⟩⟩
  simp only [putT_comm a2]
theorem step_nx {i : Nat} {σ σ' : St} (h : Step C av ops i σ σ') : σ'.nx = σ.nx := by
  obtain ⟨_, _, _, _, _, _, rfl⟩ := step_eff.1 h
  rfl
/-- One that is ready goes ahead. -/
theorem steps_front {m : Bool} {av : Nat → Av} {lo S : List Nat} (hav : av = avf lo S) {j : Nat} {oj : Oper} (hj : ops[j]? = some oj) : ∀ (p : List Nat) (r : List Nat) (σ σ' : St),
    (∀ i oi, ops[i]? = some oi → isFc oi.op = true → memN i lo = true → m = true → ∀ q, σ.nx + 8 * i ≤ q → q < σ.nx + 8 * i + 8 → memN q S = true) → (∀ i ∈ p, i ≠ j ∧ ∃ oi, ops[i]? = some oi ∧ pairOk C.P m ops lo i j oi oj = true) → Steps' C av ops (p ++ j :: r) σ σ' → Steps' C av ops (j :: (p ++ r)) σ σ'
  | [], r, σ, σ', _, _, h => h
  | i :: p, r, σ, σ', hfr, hp, h => by
    cases h with
    | cons h1 h2 =>
      have h3 := steps_front hav hj p r _ σ' (by rw [step_nx h1]; exact hfr) (fun k hk => hp k (List.mem_cons_of_mem _ hk)) h2
      cases h3 with
      | cons h4 h5 =>
        obtain ⟨hne, oi, hi, hpp⟩ := hp i List.mem_cons_self
        obtain ⟨σ1', h6, h7⟩ := swap_step hav hfr hi hj hne hpp h1 h4
        exact .cons h6 (.cons h7 h5)
end
/-! ### every order -/
section
variable {ops : List Oper} {P : Program} {m : Bool} {lo : List Nat}
def PairR (P : Program) (m : Bool) (ops : List Oper) (lo : List Nat) (i j : Nat) : Prop :=
  i ≠ j ∧ ∃ oi oj, ops[i]? = some oi ∧ ops[j]? = some oj ∧ j ∉ deps oi ∧ (i ∈ deps oj ∨ pairOk P m ops lo i j oi oj = true ∨ reach ops 16 i j = true)
theorem okPairs_pw : ∀ {l : List Nat}, okPairs P m ops lo l = true → l.Pairwise (PairR P m ops lo)
  | [], _ => .nil
  | i :: r, h => by
    unfold okPairs at h
    rw [Bool.and_eq_true, Bool.and_eq_true] at h
    obtain ⟨h1, h2, h3⟩ := h
    refine .cons (fun j hj => ?_) (okPairs_pw h3)
    have hir : i ∉ r := fun hm => by rw [memN_iff.2 hm] at h2; cases h2
    split at h1
    · rename_i oi hi
      have h4 := List.all_eq_true.1 h1 j hj
      split at h4
      · rename_i oj hoj
        rw [Bool.and_eq_true, Bool.or_eq_true, Bool.or_eq_true] at h4
        refine ⟨fun e => hir (by rw [e]; exact hj), oi, oj, hi, hoj, fun hm => ?_, h4.2.imp memN_iff.1 id⟩
        have := h4.1
        rw [memN_iff.2 hm] at this
        cases this
      · cases h4
    · cases h1
theorem deps_mem {o : Oper} {e : Edge} (h : e ∈ o.after) (hb : Region.binds .any e = true) : e.on ∈ deps o := by
  unfold deps
  refine List.mem_filterMap.2 ⟨e, by simpa using h, ?_⟩
  unfold Region.binds at hb
  cases hg : e.ground <;> rw [hg] at hb <;> first | rfl | cases hb
theorem deps_inv {o : Oper} {d : Nat} (h : d ∈ deps o) : ∃ e, e ∈ o.after ∧ Region.binds .any e = true ∧ e.on = d := by
  unfold deps at h
  obtain ⟨e, h1, h2⟩ := List.mem_filterMap.1 h
  refine ⟨e, by simpa using h1, ?_, ?_⟩
  · unfold Region.binds
    cases hg : e.ground <;> rw [hg] at h2 <;> first | rfl | cases h2
  · cases hg : e.ground <;> rw [hg] at h2 <;> first | (injection h2) | cases h2
structure Inv (P : Program) (m : Bool) (ops : List Oper) (lo : List Nat) (listed : Array Bool) (l : List Nat) : Prop where
  size : listed.size = ops.length
  left : ∀ j, listed.getD j true = false ↔ j ∈ l
  pw : l.Pairwise (PairR P m ops lo)
  deps : ∀ i, i ∈ l → ∃ o, ops[i]? = some o ∧ ∀ d ∈ deps o, d < ops.length ∧ d ≠ i
  down : ∀ j o, ops[j]? = some o → listed.getD j true = true → ∀ d ∈ Go.Sx.deps o, listed.getD d true = true
theorem listed_of {listed : Array Bool} {l : List Nat} (h : Inv P m ops lo listed l) {d : Nat} (hd : d < ops.length) (hl : d ∉ l) : listed.getD d false = true := by
  have h1 : listed.getD d true = true := by
    cases hh : listed.getD d true with
    | true => rfl
    | false => exact absurd ((h.left d).1 hh) hl
  have h2 : d < listed.size := by rw [h.size]; exact hd
  simpa [Array.getD, h2] using h1
theorem notl {listed : Array Bool} {l : List Nat} (h : Inv P m ops lo listed l) {d : Nat} (hd : listed.getD d false = true) : d ∉ l := fun hm => by
  have := (h.left d).2 hm
  by_cases h2 : d < listed.size
  · simp [Array.getD, h2] at hd this
    rw [hd] at this
    cases this
  · simp [Array.getD, h2] at hd
theorem reach_out {listed : Array Bool} {l : List Nat} (h : Inv P m ops lo listed l) : ∀ (f i j : Nat) (o : Oper), ops[j]? = some o → (∀ d ∈ deps o, listed.getD d true = true) → reach ops f i j = true → listed.getD i true = true
  | 0, i, j, o, _, _, hr => by cases hr
  | f + 1, i, j, o, ho, hd, hr => by
    unfold reach at hr
    rw [ho] at hr
    obtain ⟨k, hk, hkk⟩ := List.any_eq_true.1 hr
    rw [Bool.or_eq_true] at hkk
    rcases hkk with hkk | hkk
    · rw [← beq_nat hkk]; exact hd k hk
    · rw [Bool.and_eq_true] at hkk
      replace hkk := hkk.2
      cases f with
      | zero => cases hkk
      | succ f =>
        cases hk2 : ops[k]? with
        | none => unfold reach at hkk; rw [hk2] at hkk; cases hkk
        | some o2 => exact reach_out h (f + 1) i k o2 hk2 (fun d hd2 => h.down k o2 hk2 (hd k hk) d hd2) hkk
theorem any_orders {A : Cx} {C : Ctx} {av : Nat → Av} {S : List Nat} (hav : av = avf lo S) {σ' : St} {Q : Exit → Act → World → Prop} (hP : C.P = P) (hG : ∀ f con, C.G f = some con → CtrOK C.P f con) (hN : C.N = A.N) (hQ : ∀ a w, Holds A σ' a w → Q .normal a w) :
    ∀ (n : Nat) (l : List Nat) (listed : Array Bool) (σ : St) (a : Act) (w : World), (∀ i oi, ops[i]? = some oi → isFc oi.op = true → memN i lo = true → m = true → ∀ q, σ.nx + 8 * i ≤ q → q < σ.nx + 8 * i + 8 → memN q S = true) → l.length = n → Inv P m ops lo listed l → Steps' C av ops l σ σ' → Holds A σ a w → wpAny C.P .any ops.toArray Q n listed a w
  | 0, l, listed, σ, a, w, hfr, hl, hI, hs, hH => by
    match l, hl with
    | [], _ =>
      refine ⟨?_, ?_⟩
      · cases hr : Region.ready .any ops.toArray listed with
        | nil => rfl
        | cons j _ =>
          have hj : j ∈ Region.ready .any ops.toArray listed := by rw [hr]; exact List.mem_cons_self
          have := (hI.left j).1 (mem_ready.1 hj).1
          cases this
      · cases hs
        exact hQ a w hH
  | n + 1, l, listed, σ, a, w, hfr, hl, hI, hs, hH => by
    refine ⟨fun hr => ?_, fun i hi => ?_⟩
    · exfalso
      match l, hl with
      | i :: r, _ =>
        have : i ∈ Region.ready .any ops.toArray listed := by
          refine mem_ready.2 ⟨(hI.left i).2 List.mem_cons_self, ?_⟩
          obtain ⟨o, ho, hd⟩ := hI.deps i List.mem_cons_self
          refine ⟨o, by simpa using ho, fun e he hb => ?_⟩
          have hm := deps_mem he hb
          obtain ⟨h1, h2⟩ := hd _ hm
          refine listed_of hI h1 fun hml => ?_
          rcases List.mem_cons.1 hml with h3 | h3
          · exact h2 h3
          · obtain ⟨_, oi, oj, h4, _, h5, _⟩ := (List.pairwise_cons.1 hI.pw).1 _ h3
            rw [ho] at h4
            injection h4 with h4
            subst h4
            exact h5 hm
        rw [hr] at this
        cases this
    · obtain ⟨hl0, o, ho, hall⟩ := mem_ready.1 hi
      have ho : ops[i]? = some o := by simpa using ho
      have hil := (hI.left i).1 hl0
      obtain ⟨p, r, rfl⟩ := List.append_of_mem hil
      have hdl : ∀ d ∈ deps o, listed.getD d true = true := fun d hd => by
        obtain ⟨e, h1, h2, rfl⟩ := deps_inv hd
        have := hall e h1 h2
        by_cases h3 : e.on < listed.size
        · simp [Array.getD, h3] at this ⊢; exact this
        · simp [Array.getD, h3]
      have hdn : ∀ d ∈ deps o, d ∉ p ++ i :: r := fun d hd => by
        obtain ⟨e, h1, h2, rfl⟩ := deps_inv hd
        exact notl hI (hall e h1 h2)
      have hpw := List.pairwise_append.1 hI.pw
      have hfront := steps_front (C := C) hav ho p r σ σ' hfr (fun k hk => by
        obtain ⟨hne, oi, oj, h1, h2, h3, h4⟩ := hpw.2.2 k hk i List.mem_cons_self
        rw [ho] at h2
        injection h2 with h2
        subst h2
        refine ⟨hne, oi, h1, ?_⟩
        rcases h4 with h4 | h4 | h4
        · exact absurd (List.mem_append_left _ hk) (hdn k h4)
        · rw [hP]; exact h4
        · have h5 := reach_out hI 16 k i o ho hdl h4
          have h6 := (hI.left k).2 (List.mem_append_left _ hk)
          rw [h5] at h6
          cases h6) hs
      cases hfront with
      | cons h1 h2 =>
        refine wpOp_mono (fun a' w' h' => ?_) (step_sound h1 hH hG hN)
        have hnd : i ∉ p ++ r := fun hm => by
          rcases List.mem_append.1 hm with hm | hm
          · exact (hpw.2.2 i hm i List.mem_cons_self).1 rfl
          · exact ((List.pairwise_cons.1 hpw.2.1).1 i hm).1 rfl
        refine any_orders hav hP hG hN hQ n (p ++ r) _ _ a' w' (by rw [step_nx h1]; exact hfr) (by simp at hl ⊢; omega) ?_ h2 h'
        have hil : i < listed.size := by
          rw [hI.size]
          exact (List.getElem?_eq_some_iff.1 ho).1
        have hset : ∀ j, (listed.setIfInBounds i true).getD j true = true ↔ j = i ∨ listed.getD j true = true := by
          intro j
          by_cases h : j = i
          · subst h; simp [hil]
          · rw [getD_set_ne true (fun e => h e.symm)]; simp [h]
        refine ⟨by simp [hI.size], fun j => ?_, ?_, fun k hk => hI.deps k ?_, fun j oj hoj hlj d hd => ?_⟩
        · have h3 := hset j
          have h4 := hI.left j
          constructor
          · intro hf
            have h5 : ¬ (j = i ∨ listed.getD j true = true) := fun hh => by rw [h3.2 hh] at hf; cases hf
            have h6 : j ∈ p ++ i :: r := h4.1 (by cases hh : listed.getD j true with
              | false => rfl
              | true => exact absurd (.inr hh) h5)
            rcases List.mem_append.1 h6 with h6 | h6
            · exact List.mem_append_left _ h6
            · rcases List.mem_cons.1 h6 with h6 | h6
              · exact absurd (.inl h6) h5
              · exact List.mem_append_right _ h6
          · intro hm
            cases hh : (listed.setIfInBounds i true).getD j true with
            | false => rfl
            | true =>
              rcases h3.1 hh with h5 | h5
              · subst h5; exact absurd hm hnd
              · have : listed.getD j true = false := h4.2 (by
                  rcases List.mem_append.1 hm with hm | hm
                  · exact List.mem_append_left _ hm
                  · exact List.mem_append_right _ (List.mem_cons_of_mem _ hm))
                rw [h5] at this
                cases this
        · refine List.Pairwise.sublist ?_ hI.pw
          exact List.Sublist.append_left (List.sublist_cons_self i r) p
        · rcases List.mem_append.1 hk with hk | hk
          · exact List.mem_append_left _ hk
          · exact List.mem_append_right _ (List.mem_cons_of_mem _ hk)
        · rcases (hset j).1 hlj with h5 | h5
          · subst h5
            rw [ho] at hoj
            injection hoj with hoj
            subst hoj
            exact (hset d).2 (.inr (hdl d hd))
          · exact (hset d).2 (.inr (hI.down j oj hoj h5 d hd))
theorem holds_drawn {A : Cx} {σ : St} {a : Act} {w : World} (h : Holds A σ a w) (d : Nat) : Holds A σ a { w with drawn := d } := by
  obtain ⟨ν, h⟩ := h
  exact ⟨ν, h.tm, h.mem.drawn d, h.ext, h.defers, h.size⟩
end
theorem fresh8_mem {n q : Nat} (h1 : n ≤ q) (h2 : q < n + 8) : q ∈ fresh8 n := by
  unfold fresh8
  simp only [List.mem_cons, List.not_mem_nil, or_false]
  omega
theorem av_fresh {C : Ctx} {m : Bool} {ops : List Oper} {σ : St} {lo : List Nat} {i : Nat} {oi : Oper} (hi : ops[i]? = some oi) (hf : isFc oi.op = true) (hl : memN i lo = true) (hm : m = true) : ∀ q, σ.nx + 8 * i ≤ q → q < σ.nx + 8 * i + 8 → memN q (avOf C m ops σ lo) = true := by
  intro q h1 h2
  refine memN_iff.2 ?_
  unfold avOf
  refine List.mem_append_right _ ?_
  rw [hm, cnd_true]
  refine List.mem_flatMap.2 ⟨i, memN_iff.1 hl, ?_⟩
  rw [hi]
  simp only [Option.map_some]
  rw [hf, cnd_true]
  exact fresh8_mem h1 h2
theorem drawK_sound {R : Type} {F : Fix R} {A : Cx} {m : Bool} (hm : F.P.follows .mixedOrders = true) (hG : ∀ f con, F.G f = some con → CtrOK F.P f con) (hN : F.N = A.N) {k id : Nat} {ops : Array Oper} {l : List Nat} {σ : St} {K : St → Option R} {alt : Option R} {r : R} {a : Act} {w : World} {Q : Exit → Act → World → Prop}
    (h : drawK (F.C k) m ops.toList l σ K alt = some r) (hH : Holds A σ a w) (hQ : ∀ σ' a w, K σ' = some r → Holds A σ' a w → Q .normal a w) : (Code.region id ops true).wp F.P Q a w ∨ alt = some r := by
  unfold drawK at h
  simp only [] at h
  generalize hlo : looseOf (F.C k).P m ops.toList l = lo at h
  cases hc : ((List.range ops.toList.length).all (memN · l) && (okDeps ops.toList l && (Nat.beq l.length ops.toList.length && okPairs (F.C k).P m ops.toList lo l))) with
  | false => rw [hc] at h; exact .inr h
  | true =>
    rw [hc] at h
    simp only [cnd_true] at h
    rw [Bool.and_eq_true, Bool.and_eq_true, Bool.and_eq_true] at hc
    obtain ⟨h1, h2, h3, h4⟩ := hc
    obtain ⟨σ', h5, h6⟩ := runK_inv h (KnOK.nil σ)
    refine .inl (wp_region_any hm ?_)
    have hlen : l.length = ops.size := by simpa using beq_nat h3
    have hdeps : ∀ i, i ∈ l → ∃ o, ops.toList[i]? = some o ∧ ∀ d ∈ deps o, d < ops.toList.length ∧ d ≠ i := fun i hi => by
      have h7 := List.all_eq_true.1 h2 i hi
      split at h7
      · rename_i o ho
        refine ⟨o, ho, fun d hd => ?_⟩
        have h8 := List.all_eq_true.1 h7 d hd
        rw [Bool.and_eq_true] at h8
        refine ⟨Nat.le_of_ble_eq_true h8.1, fun e => ?_⟩
        have h9 := h8.2
        rw [e, Nat.beq_refl] at h9
        cases h9
      · cases h7
    refine any_orders (ops := ops.toList) (C := F.C k) (P := (F.C k).P) (A := A) (m := m) (lo := lo) (σ' := σ') rfl rfl hG hN (fun a w hh => hQ _ a w h6 hh) ops.size l _ σ a _ (fun i oi hi hfc hml hm1 => av_fresh hi hfc hml hm1) hlen ⟨by simp, fun j => ?_, okPairs_pw h4, hdeps, fun j o ho hl => ?_⟩ h5 (holds_drawn hH _)
    · by_cases hj : j < ops.size
      · have : j ∈ l := memN_iff.1 (List.all_eq_true.1 h1 j (by simpa using hj))
        simp [hj, this]
      · have : j ∉ l := fun hm2 => by
          obtain ⟨o, ho, _⟩ := hdeps j hm2
          exact hj (by simpa using (List.getElem?_eq_some_iff.1 ho).1)
        simp [hj, this]
    · have hj : j < ops.size := by simpa using (List.getElem?_eq_some_iff.1 ho).1
      simp [hj] at hl
theorem draw_sound {R : Type} {F : Fix R} {A : Cx} (hm : F.P.follows .mixedOrders = true) (hG : ∀ f con, F.G f = some con → CtrOK F.P f con) (hN : F.N = A.N) : DrawOK F A := by
  intro k id ops σ K r a w Q h hH hQ
  unfold regK at h
  simp only [] at h
  have hQ' : ∀ σ' a w, K ⟨σ'.tm, σ'.hp, σ'.nx + 8 * ops.size⟩ = some r → Holds A σ' a w → Q .normal a w := fun σ' a w h1 h2 => hQ _ a w h1 (holds_nx h2)
  rcases drawK_sound (id := id) hm hG hN h hH hQ' with h1 | h1
  · exact h1
  · rcases drawK_sound (id := id) hm hG hN h1 hH hQ' with h2 | h2
    · exact h2
    · rcases drawK_sound (id := id) hm hG hN h2 hH hQ' with h3 | h3
      · exact h3
      · rcases drawK_sound (id := id) hm hG hN h3 hH hQ' with h4 | h4
        · exact h4
        · rcases drawK_sound (id := id) hm hG hN h4 hH hQ' with h5 | h5
          · exact h5
          · cases h5
end Go.Sx
