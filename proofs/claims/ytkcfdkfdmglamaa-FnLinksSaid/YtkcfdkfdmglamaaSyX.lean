/- Two steps that no order binds may change places. -/
import Derived.Test.YtkcfdkfdmglamaaSyW
set_option linter.unusedVariables false
set_option linter.unusedSimpArgs false
namespace Go.Sx
/-- One operation's way, told of its operands alone. -/
inductive WaysE (C : Ctx) (av : Av) (op : Op) (e : Operand → SV) (nm : Nat) (hp : Hp) : SV → Hp → Prop
  | pick (c a b : Operand) (s : SB) (ho : op = .pick c a b) (hs : e c = .a false [.bool s]) : WaysE C av op e nm hp (if s.b = true then e a else e b) hp
  | call (f : FuncId) (as : Array Operand) (ts : Array TypeId) (con : Con) (x : AKs con.ak) (b : OKs con.rk) (ho : op = .call { callee := .value (.func f), args := as, argTypes := ts }) (hG : C.G f = some con)
      (hx : mAs hp con.ak (as.toList.map e) = some x) (hf : con.fn C.k x = some b)
      (hc : (((ptrs con.ak (as.toList.map e)).all (wrOk av) && apN con.ak (as.toList.map e)) && (freeN hp nm (OK.news con.rk) && Nat.ble (OK.news con.rk) 8)) = true) :
      WaysE C av op e nm hp (resV con.nres (inOs (as.toList.map e) con.nres (ptrs con.ak (as.toList.map e)) con.rk b nm hp).1) (inOs (as.toList.map e) con.nres (ptrs con.ak (as.toList.map e)) con.rk b nm hp).2
  | op (cs : List SB) (v : SV) (hp1 : Hp) (ho : opA C.P av op e nm hp = some (cs, v, hp1)) (hc : ∀ s ∈ cs, s.b = true) : WaysE C av op e nm hp v hp1
section
variable {C : Ctx} {av : Av} {op : Op} {e e' : Operand → SV} {nm : Nat} {hp hp' hp1 : Hp} {v : SV}
theorem ways_e {o : Oper} {σ : St} {v : SV} {hp : Hp} : Ways C av o nm σ v hp ↔ WaysE C av o.op (ev σ.tm) nm σ.hp v hp := by
  constructor
  · intro h
    cases h with
    | pick c a b s ho hs => exact .pick c a b s ho hs
    | call f as ts con x b ho hG hx hf hc => exact .call f as ts con x b ho hG hx hf hc
    | op cs v hp ho hc => exact .op cs v hp ho hc
  · intro h
    cases h with
    | pick c a b s ho hs => exact .pick c a b s ho hs
    | call f as ts con x b ho hG hx hf hc => exact .call f as ts con x b ho hG hx hf hc
    | op cs v hp ho hc => exact .op cs v hp ho hc
theorem ways0 (hc : cls C.P op = 0) (h : WaysE C av op e nm hp v hp1) : hp1 = hp ∧ ∀ av' nm' hp', WaysE C av' op e nm' hp' v hp' := by
  cases h with
  | pick c a b s ho hs => exact ⟨rfl, fun av' nm' hp' => .pick c a b s ho hs⟩
  | call f as ts con x b ho hG hx hf hcc => subst ho; simp [cls] at hc
  | op cs v hp ho hcc =>
    obtain ⟨h1, h2⟩ := opA_cls0 hc ho
    exact ⟨h1, fun av' nm' hp' => .op cs v hp' (h2 av' nm' hp') hcc⟩
theorem ways1 (hc : cls C.P op = 1) (h : WaysE C av op e nm hp v hp1) : hp1 = hp ∧ ∀ nm' hp', Sees av hp hp' → WaysE C av op e nm' hp' v hp' := by
  cases h with
  | pick c a b s ho hs => subst ho; simp [cls] at hc
  | call f as ts con x b ho hG hx hf hcc => subst ho; simp [cls] at hc
  | op cs v hp ho hcc =>
    obtain ⟨h1, h2⟩ := opA_cls1 hc ho
    exact ⟨h1, fun nm' hp' hs => .op cs v hp' (h2 nm' hp' hs) hcc⟩
theorem ways2 (hc : cls C.P op = 2) (h : WaysE C av op e nm hp v hp1) : hp nm = .free ∧ ∃ E, wrE E ∧ hp1 = upd hp nm E ∧ ∀ av' hp', hp' nm = .free → WaysE C av' op e nm hp' v (upd hp' nm E) := by
  cases h with
  | pick c a b s ho hs => subst ho; simp [cls] at hc
  | call f as ts con x b ho hG hx hf hcc => subst ho; simp [cls] at hc
  | op cs v hp ho hcc =>
    obtain ⟨h1, E, hE, h2, h3⟩ := opA_cls2 hc ho
    exact ⟨h1, E, hE, h2, fun av' hp' hf => .op cs v _ (h3 av' hp' hf) hcc⟩
theorem freeN_all {n : Nat} : (∀ m, nm ≤ m → m < nm + n → hp m = .free) → freeN hp nm n = true := by
  induction n with
  | zero => intro _; rfl
  | succ n ih =>
    intro h
    unfold freeN
    rw [h (nm + n) (by omega) (by omega)]
    exact ih fun m h1 h2 => h m h1 (by omega)
theorem ways34 (hc : cls C.P op = 3 ∨ cls C.P op = 4) (h : WaysE C av op e nm hp v hp1) : Keeps av hp hp1 ∧ ∀ q E, hp q = .free → (q < nm ∨ nm + 8 ≤ q) → WaysE C av op e nm (upd hp q E) v (upd hp1 q E) := by
  cases h with
  | pick c a b s ho hs => subst ho; simp [cls] at hc
  | call f as ts con x b ho hG hx hf hcc =>
    have hb := hcc
    rw [Bool.and_eq_true, Bool.and_eq_true, Bool.and_eq_true] at hb
    have hle : OK.news con.rk ≤ 8 := Nat.le_of_ble_eq_true hb.2.2
    have hfree := freeN_some hb.2.1
    have hbox := ptr_box con.ak x _ hx
    have hps : ∀ p, p ∈ ptrs con.ak (as.toList.map e) → hp p ≠ .free := fun p hp' hh => by
      have := hbox p hp'
      rw [hh] at this
      exact this
    obtain ⟨h1, h2, h3⟩ := inOs_spec (as.toList.map e) con.rk b con.nres (ptrs con.ak (as.toList.map e)) nm hp hfree hps
    refine ⟨⟨fun n hn hh => ?_, h2⟩, fun q E hq hqq => ?_⟩
    · refine h1 n hn fun hmem => ?_
      have hw := List.all_eq_true.1 hb.1.1 n hmem
      have hbx := hbox n hmem
      rcases hh with hh | hh
      · rw [hw] at hh; cases hh
      · cases hx2 : hp n <;> rw [hx2] at hh hbx <;> first | exact hbx | (cases hh; done)
    · have hfr2 : freeN (upd hp q E) nm (OK.news con.rk) = true := freeN_all fun m h4 h5 => by
        rw [upd_other _ _ (by omega)]
        exact hfree m h4 h5
      have hc2 : (((ptrs con.ak (as.toList.map e)).all (wrOk av) && apN con.ak (as.toList.map e)) && (freeN (upd hp q E) nm (OK.news con.rk) && Nat.ble (OK.news con.rk) 8)) = true := by
        rw [Bool.and_eq_true, Bool.and_eq_true, Bool.and_eq_true]
        exact ⟨hb.1, hfr2, hb.2.2⟩
      have h4 := WaysE.call (C := C) (av := av) (op := op) (e := e) (nm := nm) (hp := upd hp q E) f as ts con x b ho hG (mAs_grow (grows_upd hq E) con.ak _ x hx) hf hc2
      rw [h3 q E hq (by omega)] at h4
      exact h4
  | op cs v hp ho hcc =>
    obtain ⟨h1, h2⟩ := opA_cls34 hc ho
    exact ⟨h1, fun q E hq hqq => .op cs v _ (h2 q E hq (by omega)) hcc⟩
theorem cls_all (P : Program) (op : Op) : cls P op = 0 ∨ cls P op = 1 ∨ cls P op = 2 ∨ cls P op = 3 ∨ cls P op = 4 := by
  unfold cls
  split <;> first | simp | (split <;> simp)
theorem sees_keeps {S : List Nat} (h : Keeps (some S) hp hp') : Sees (some S) hp hp' := fun n hn hh => h.old n hn (hh.imp (fun h1 => by
  cases hm : memN n S with
  | true => simp [rdOk, hm] at h1
  | false => simp [wrOk, hm]) id)
/-- Operands that look alike. -/
theorem opA_congr {P : Program} (h : ∀ x ∈ op.operands, e x = e' x) : opA P av op e nm hp = opA P av op e' nm hp := by
  have pairs : ∀ ps : Array (Nat × Operand), (∀ x ∈ (ps.toList.map (·.2)).toArray, e x = e' x) → (ps.toList.map fun p => (p.1, e p.2)) = (ps.toList.map fun p => (p.1, e' p.2)) := fun ps hp =>
    List.map_congr_left fun p hm => by rw [hp p.2 (by simpa using ⟨p.1, by simpa using hm⟩)]
  cases op <;> simp only [Op.operands] at h <;> simp only [opA]
  case build t ps => rw [pairs ps h]
  case buildSlice t n ps => rw [pairs ps h]
  case slice t x lo hi mx =>
    cases mx with
    | some m => rfl
    | none => cases lo <;> cases hi <;> simp_all
  case call c =>
    obtain ⟨callee, as, ts⟩ := c
    cases callee with
    | builtin b =>
      simp only []
      rw [List.map_congr_left (l := as.toList) (g := e') fun x hx => h x (by simp [Call.operands]; simpa using hx)]
    | _ => rfl
  all_goals first | rfl | (simp_all; done)
theorem ways_congr (h : ∀ x ∈ op.operands, e x = e' x) (hw : WaysE C av op e nm hp v hp1) : WaysE C av op e' nm hp v hp1 := by
  cases hw with
  | pick c a b s ho hs =>
    subst ho
    simp only [Op.operands] at h
    rw [h a (by simp), h b (by simp)]
    exact .pick c a b s rfl (by rw [← h c (by simp)]; exact hs)
  | call f as ts con x b ho hG hx hf hc =>
    subst ho
    have hm : as.toList.map e = as.toList.map e' := List.map_congr_left fun x hx => h x (by simp [Op.operands, Call.operands]; exact .inr (by simpa using hx))
    rw [hm] at hx hc ⊢
    exact .call f as ts con x b rfl hG hx hf hc
  | op cs v hp ho hc => exact .op cs v _ (by rw [← opA_congr h]; exact ho) hc
end
/-! ### what a call makes -/
def NewOK (hp hp' : Hp) : Prop := ∀ n, hp' n = hp n ∨ wrE (hp' n)
theorem NewOK.refl (hp : Hp) : NewOK hp hp := fun _ => .inl rfl
theorem NewOK.trans {a b c : Hp} (h : NewOK a b) (k : NewOK b c) : NewOK a c := fun n => by
  rcases k n with k1 | k1
  · rw [k1]; exact h n
  · exact .inr k1
theorem NewOK.upd {a b : Hp} (h : NewOK a b) (n : Nat) {e : Ent} (he : wrE e) : NewOK a (upd b n e) := fun k => by
  by_cases hk : k = n
  · subst hk; rw [upd_same]; exact .inr he
  · rw [upd_other _ _ hk]; exact h k
theorem inC_new (args : List SV) (old : SC) (nm : Nat) (hp : Hp) (k : RK) (x : k.T) : NewOK hp (inC args old nm hp k x).2.2 := by
  cases k with
  | own t e => exact (NewOK.refl hp).upd nm trivial
  | exr t e => exact (NewOK.refl hp).upd nm trivial
  | _ => exact NewOK.refl hp
theorem inCs_new (args : List SV) : ∀ (ks : List RK) (x : RKs ks) (old : List SC) (nm : Nat) (hp : Hp), NewOK hp (inCs args ks x old nm hp).2.2
  | [], x, old, nm, hp => NewOK.refl hp
  | [k], x, old, nm, hp => inC_new args _ nm hp k x
  | k :: k' :: r, x, old, nm, hp => (inC_new args _ nm hp k x.1).trans (inCs_new args (k' :: r) x.2 old.tail _ _)
theorem inO_new (args : List SV) (k : OK) (x : k.T) (nm : Nat) (hp : Hp) : NewOK hp (inO args k x nm hp).2.2 := by
  cases k with
  | v g ks => exact inCs_new args ks x [] nm hp
  | box ks t => exact (inCs_new args ks x [] (nm + 1) hp).upd nm trivial
  | row t e => exact NewOK.refl hp
theorem upO_new (args : List SV) (p : Nat) (k : OK) (x : k.T) (nm : Nat) (hp : Hp) : NewOK hp (upO args p k x nm hp).2 := by
  cases k with
  | v g ks => exact NewOK.refl hp
  | box ks t =>
    show NewOK hp (match hp p with
      | .box old _ => match inCs args ks x old nm hp with
        | (cs, nm, hp) => (nm, upd hp p (.box cs t))
      | _ => (nm, hp) : Nat × Hp).2
    split
    · exact (inCs_new args ks x _ nm hp).upd p trivial
    · exact NewOK.refl hp
  | row t e => exact (NewOK.refl hp).upd p trivial
theorem inOs_new (args : List SV) : ∀ (n : Nat) (ps : List Nat) (ks : List OK) (x : OKs ks) (nm : Nat) (hp : Hp), NewOK hp (inOs args n ps ks x nm hp).2
  | 0, [], [], x, nm, hp => NewOK.refl hp
  | 0, [], [k], x, nm, hp => NewOK.refl hp
  | 0, [], k :: k' :: r, x, nm, hp => NewOK.refl hp
  | 0, p :: ps, [], x, nm, hp => NewOK.refl hp
  | 0, p :: ps, [k], x, nm, hp => upO_new args p k x nm hp
  | 0, p :: ps, k :: k' :: r, x, nm, hp => (upO_new args p k x.1 nm hp).trans (inOs_new args 0 ps (k' :: r) x.2 _ _)
  | n + 1, ps, [], x, nm, hp => NewOK.refl hp
  | n + 1, ps, [k], x, nm, hp => inO_new args k x nm hp
  | n + 1, ps, k :: k' :: r, x, nm, hp => (inO_new args k x.1 nm hp).trans (inOs_new args n ps (k' :: r) x.2 _ _)
theorem isFc_cls {P : Program} {op : Op} (hf : isFc op = true) : cls P op = 2 ∨ cls P op = 3 := by
  unfold isFc at hf
  split at hf
  all_goals first | exact .inr rfl | exact .inl rfl | cases hf
theorem ways_fc {C : Ctx} {av : Av} {op : Op} {e : Operand → SV} {nm : Nat} {hp hp1 : Hp} {v : SV} (hf : isFc op = true) (h : WaysE C av op e nm hp v hp1) : NewOK hp hp1 ∧ ∀ q, hp q = .free → (q < nm ∨ nm + 8 ≤ q) → hp1 q = .free := by
  by_cases hc2 : cls C.P op = 2
  · obtain ⟨h1, E, hE, rfl, _⟩ := ways2 hc2 h
    exact ⟨(NewOK.refl hp).upd nm hE, fun q hq hqq => by rw [upd_other _ _ (by omega)]; exact hq⟩
  cases h with
  | pick c a b s ho hs => subst ho; cases hf
  | call f as ts con x b ho hG hx hfn hcc =>
    refine ⟨inOs_new _ _ _ _ _ _ _, fun q hq hqq => ?_⟩
    rw [Bool.and_eq_true, Bool.and_eq_true, Bool.and_eq_true] at hcc
    have hle : OK.news con.rk ≤ 8 := Nat.le_of_ble_eq_true hcc.2.2
    have hfree := freeN_some hcc.2.1
    have hbox := ptr_box con.ak x _ hx
    have hps : ∀ p, p ∈ ptrs con.ak (as.toList.map e) → hp p ≠ .free := fun p hp' hh => by
      have := hbox p hp'
      rw [hh] at this
      exact this
    obtain ⟨_, _, h3⟩ := inOs_spec (as.toList.map e) con.rk b con.nres (ptrs con.ak (as.toList.map e)) nm hp hfree hps
    have h4 := h3 q .free hq (by omega)
    have h5 : upd hp q .free = hp := by
      funext k
      by_cases hk : k = q
      · subst hk; rw [upd_same]; exact hq.symm
      · rw [upd_other _ _ hk]
    rw [h5] at h4
    have h6 := congrFun (congrArg Prod.snd h4) q
    simp only [] at h6
    rw [upd_same] at h6
    exact h6
  | op cs v hp ho hc =>
    exfalso
    unfold isFc at hf
    split at hf
    · simp [opA] at ho
    all_goals first | exact hc2 rfl | cases hf
theorem sees_back {C : Ctx} {S : List Nat} {op : Op} {e : Operand → SV} {nm : Nat} {hp hp1 : Hp} {v : SV} (hf : isFc op = true) (h : WaysE C (some S) op e nm hp v hp1) (hS : ∀ q, nm ≤ q → q < nm + 8 → memN q S = true) : Sees (some S) hp1 hp := by
  obtain ⟨h1, h2⟩ := ways_fc hf h
  have hk : Keeps (some S) hp hp1 := by
    rcases isFc_cls (P := C.P) hf with hc | hc
    · obtain ⟨hf1, E, hE, rfl, _⟩ := ways2 hc h
      exact Keeps.fresh hf1
    · exact (ways34 (.inl hc) h).1
  intro n hn hh
  rcases h1 n with h3 | h3
  · exact h3.symm
  · have hrd : memN n S = false := by
      rcases hh with hh | hh
      · have hh : (!(memN n S)) = true := hh
        cases hm : memN n S with
        | false => rfl
        | true => rw [hm] at hh; cases hh
      · cases hx : hp1 n <;> rw [hx] at h3 hh <;> first | exact h3.elim | (cases hh; done)
    by_cases hfr : hp n = .free
    · exfalso
      by_cases hin : nm ≤ n ∧ n < nm + 8
      · rw [hS n hin.1 hin.2] at hrd; cases hrd
      · exact hn (h2 n hfr (by omega))
    · exact (hk.old n hfr (.inl hrd)).symm
end Go.Sx
