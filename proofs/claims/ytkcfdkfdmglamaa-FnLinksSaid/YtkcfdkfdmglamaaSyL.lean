/- One operation, a region: what the symbolic steps say of the machine's. -/
import Derived.Test.YtkcfdkfdmglamaaSyK
import Derived.Orders
set_option linter.unusedVariables false
set_option linter.unusedSimpArgs false
namespace Go.Sx
/-- A call's own place: the world that it began in, the names that it was handed. -/
structure Cx where
  base : Nat
  G : Nat → Prop
  w0 : World
  hp0 : Hp
  ν0 : Nat → Value
  N : Nat
structure HoldsAt (A : Cx) (σ : St) (a : Act) (w : World) (ν : Nat → Value) : Prop where
  tm : ∀ t, VRel σ.hp ν (σ.tm t) (a.tmps.getD t undef)
  mem : Mem A.base A.G A.w0 w σ.hp ν
  ext : Ext A.hp0 A.ν0 σ.hp ν
  defers : a.defers = []
  size : a.tmps.size = A.N
def Holds (A : Cx) (σ : St) (a : Act) (w : World) : Prop := ∃ ν, HoldsAt A σ a w ν
def VsRel (hp : Hp) (ν : Nat → Value) : List SV → List Value → Prop
  | [], [] => True
  | x :: xs, v :: vs => VRel hp ν x v ∧ VsRel hp ν xs vs
  | _, _ => False
/-- A function that is entered when it is called. -/
def Enters (P : Program) (f : FuncId) : Prop := ∃ fn, P.funcs[f]? = some fn ∧ (fn.name == "runtime.NumGoroutine") = false ∧ fn.body.isNone = false
/-- A contract that the program keeps. -/
def CtrOK (P : Program) (f : FuncId) (C : Con) : Prop :=
  Enters P f ∧ ∀ (k : Nat) (x : AKs C.ak) (b : OKs C.rk), C.fn k x = some b → ∀ (base : Nat) (G : Nat → Prop) (w0 w : World) (hp : Hp) (ν : Nat → Value) (args : List SV) (vargs : Array Value) (nm : Nat),
    Mem base G w0 w hp ν → VsRel hp ν args vargs.toList → mAs hp C.ak args = some x → apN C.ak args = true → freeN hp nm (OK.news C.rk) = true →
    Calls P f vargs w fun e w' => ∃ v ν', e = .returned v ∧ VRel (inOs args C.nres (ptrs C.ak args) C.rk b nm hp).2 ν' (resV C.nres (inOs args C.nres (ptrs C.ak args) C.rk b nm hp).1) v ∧
      Mem base G w0 w' (inOs args C.nres (ptrs C.ak args) C.rk b nm hp).2 ν' ∧ Ext hp ν (inOs args C.nres (ptrs C.ak args) C.rk b nm hp).2 ν'
section
variable {A : Cx} {C : Ctx} {av : Av} {σ : St} {a : Act} {w : World}
theorem ev_rel {hp : Hp} {ν : Nat → Value} {tm : Nat → SV} (h : ∀ t, VRel hp ν (tm t) (a.tmps.getD t undef)) (x : Operand) : VRel hp ν (ev tm x) (a.eval x) := by
  cases x with
  | tmp t => exact h t
  | const v => exact SV.ofV_rel v
  | global g => trivial
  | func f => trivial
theorem put_rel {hp : Hp} {ν : Nat → Value} {tm : Nat → SV} (h : ∀ t, VRel hp ν (tm t) (a.tmps.getD t undef)) {dst : Option Tmp} {v : SV} {u : Value} (hv : VRel hp ν v u) (hd : ∀ d, dst = some d → d < a.tmps.size) :
    ∀ t, VRel hp ν (putT tm dst v t) ((a.put dst u).tmps.getD t undef) := by
  intro t
  cases dst with
  | none => exact h t
  | some d =>
    have hlt := hd d rfl
    simp only [putT, Act.put]
    by_cases ht : t = d
    · subst ht
      rw [upd_same]
      have : (a.tmps.setIfInBounds t u).getD t undef = u := by simp [Array.getD, hlt]
      rw [this]
      exact hv
    · rw [upd_other _ _ ht]
      have : (a.tmps.setIfInBounds d u).getD t undef = a.tmps.getD t undef := by
        simp only [Array.getD_eq_getD_getElem?]
        rw [Array.getElem?_setIfInBounds_ne (fun e => ht e.symm)]
      rw [this]
      exact h t
theorem put_size (a : Act) (dst : Option Tmp) (u : Value) : (a.put dst u).tmps.size = a.tmps.size := by cases dst <;> simp [Act.put]
theorem put_defers (a : Act) (dst : Option Tmp) (u : Value) : (a.put dst u).defers = a.defers := by cases dst <;> rfl
/-- Behind an operation. -/
theorem HoldsAt.put {ν ν' : Nat → Value} (h : HoldsAt A σ a w ν) {hp' : Hp} {w' : World} {dst : Option Tmp} {v : SV} {u : Value} (hv : VRel hp' ν' v u) (hm : Mem A.base A.G A.w0 w' hp' ν') (hx : Ext σ.hp ν hp' ν') (hd : ∀ d, dst = some d → d < A.N) :
    HoldsAt A ⟨putT σ.tm dst v, hp', σ.nx⟩ (a.put dst u) w' ν' :=
  ⟨put_rel (fun t => (h.tm t).mono hx) hv (fun d e => by rw [h.size]; exact hd d e), hm, h.ext.trans hx, by rw [put_defers]; exact h.defers, by rw [put_size]; exact h.size⟩
theorem undef_rel (hp : Hp) (ν : Nat → Value) : VRel hp ν (.tup []) undef := ⟨#[], rfl, trivial⟩
theorem vs_of_map {hp : Hp} {ν : Nat → Value} {e : Operand → SV} {ρ : Operand → Value} (he : ∀ x, VRel hp ν (e x) (ρ x)) : ∀ xs : List Operand, VsRel hp ν (xs.map e) (xs.map ρ)
  | [] => trivial
  | x :: xs => ⟨he x, vs_of_map he xs⟩
theorem ways_sound {o : Oper} {nm : Nat} {v : SV} {hp' : Hp} {ν : Nat → Value} {Q : Exit → Act → World → Prop} (h : Ways C av o nm σ v hp') (hH : HoldsAt A σ a w ν) (hG : ∀ f con, C.G f = some con → CtrOK C.P f con) (hd : ∀ d, o.dst = some d → d < A.N) :
    o.wp C.P a w (fun a' w' => Holds A ⟨putT σ.tm o.dst v, hp', σ.nx⟩ a' w') Q := by
  have he := ev_rel (a := a) hH.tm
  cases h with
  | pick c x y s ho hs =>
    have hb := he c
    rw [hs] at hb
    have hrun : (execOp a.eval o).run C.P w = .ok (.value (if s.b = true then a.eval x else a.eval y)) w := by
      unfold execOp
      rw [ho]
      simp [hb.bool, asBool]
    unfold Oper.wp
    rw [hrun]
    refine ⟨ν, hH.put ?_ hH.mem (.refl _ _) hd⟩
    split
    · exact he x
    · exact he y
  | call f as ts con x b ho hf hx hfn hc =>
    rw [Bool.and_eq_true, Bool.and_eq_true, Bool.and_eq_true] at hc
    obtain ⟨⟨fn, hfu, hname, hbody⟩, hcall⟩ := hG f con hf
    have hargs : VsRel σ.hp ν (as.toList.map (ev σ.tm)) (as.map a.eval).toList := by
      rw [Array.toList_map]; exact vs_of_map he as.toList
    have hc2 := hcall C.k x b hfn A.base A.G A.w0 w σ.hp ν _ (as.map a.eval) nm hH.mem hargs hx hc.1.2 hc.2.1
    have hrun : (execOp a.eval o).run C.P w = .ok (.enter f (as.map a.eval)) w := by
      unfold execOp
      simp only [ho, resolve, Act.eval, Deferred.ofValue, Sem.run_bind, Sem.run_pure, Result.andThen_ok, invoke, callFunc, run_program, hfu]
      simp [hname, hbody]
    unfold Oper.wp
    rw [hrun]
    simp only [Oper.upon]
    refine hc2.mono ?_
    rintro e' w' ⟨u, ν', rfl, hv, hm, hext⟩
    exact ⟨ν', hH.put hv hm hext hd⟩
  | op cs v hp ho hc =>
    obtain ⟨u, w', ν', hdid, hv, hm, hext⟩ := opA_sound ho hc he hH.mem
    unfold Oper.wp
    rcases hdid with hrun | ⟨hrun, rfl⟩
    · rw [hrun]
      exact ⟨ν', hH.put hv hm hext hd⟩
    · rw [hrun]
      exact ⟨ν', hH.put hv hm hext hd⟩
theorem step_sound {ops : List Oper} {i : Nat} {σ' : St} {Q : Exit → Act → World → Prop} (h : Step C av ops i σ σ') (hH : Holds A σ a w) (hG : ∀ f con, C.G f = some con → CtrOK C.P f con) (hN : C.N = A.N) :
    wpOp C.P ops.toArray Q i (fun a' w' => Holds A σ' a' w') a w := by
  obtain ⟨ν, hH⟩ := hH
  unfold wpOp
  have hbool : ∀ d s, σ.tm d = .a false [.bool s] → a.tmps[d]? = some (.bool s.b) := by
    intro d s hs
    have := hH.tm d
    rw [hs] at this
    have hb := this.bool
    rw [Array.getD_eq_getD_getElem?] at hb
    cases hq : a.tmps[d]? with
    | none => rw [hq] at hb; simp [undef] at hb
    | some q => rw [hq] at hb; simp at hb; rw [hb]
  cases h with
  | go o ho hg v hp hw hd =>
    have ho' : ops.toArray[i]? = some o := by simpa using ho
    rw [ho']
    simp only []
    have hwant : Region.wanted o (yielded ops.toArray a.tmps) = true := by
      unfold Region.wanted
      rcases hg with hg | ⟨g, want, d, s, hg, hdd, hs, hb⟩
      · rw [hg]
      · rw [hg]
        have : (ops.toArray[g]?).bind (·.dst) = some d := by simpa using hdd
        have hy : yielded ops.toArray a.tmps g = some s.b := by
          unfold yielded
          rw [this, Option.bind_some, hbool d s hs]
        simp only []
        rw [hy, hb]
        simp
    rw [if_pos hwant]
    exact .inl (ways_sound hw hH hG (fun d e => by rw [← hN]; exact hd d e))
  | skip o ho g want d hg hdd hs hd =>
    have ho' : ops.toArray[i]? = some o := by simpa using ho
    rw [ho']
    simp only []
    have hwant : Region.wanted o (yielded ops.toArray a.tmps) = false := by
      unfold Region.wanted
      rw [hg]
      have hdd' : (ops.toArray[g]?).bind (·.dst) = some d := by simpa using hdd
      rcases hs with ⟨s, hs, hb⟩ | ⟨xs, hs⟩
      · have hy : yielded ops.toArray a.tmps g = some s.b := by
          unfold yielded
          rw [hdd', Option.bind_some, hbool d s hs]
        simp only []
        rw [hy]
        simp [hb]
      · have := hH.tm d
        rw [hs] at this
        obtain ⟨vs, hvs, _⟩ := this
        rw [Array.getD_eq_getD_getElem?] at hvs
        cases hq : a.tmps[d]? with
        | none =>
          have hy : yielded ops.toArray a.tmps g = none := by
            unfold yielded
            rw [hdd', Option.bind_some, hq]
          simp only []
          rw [hy]
          simp
        | some q =>
          rw [hq] at hvs
          simp at hvs
          subst hvs
          have hy : yielded ops.toArray a.tmps g = none := by
            unfold yielded
            rw [hdd', Option.bind_some, hq]
          simp only []
          rw [hy]
          simp
    rw [if_neg (by rw [hwant]; simp)]
    exact ⟨ν, hH.put (undef_rel _ _) hH.mem (.refl _ _) (fun d e => by rw [← hN]; exact hd d e)⟩
theorem steps_sound {av : Nat → Av} {ops : List Oper} {σ' : St} {Q : Exit → Act → World → Prop} (hG : ∀ f con, C.G f = some con → CtrOK C.P f con) (hN : C.N = A.N) (hQ : ∀ a w, Holds A σ' a w → Q .normal a w) :
    ∀ {l : List Nat} {σ : St} {a : Act} {w : World}, Steps' C av ops l σ σ' → Holds A σ a w → wpOps C.P ops.toArray Q l a w
  | [], σ, a, w, h, hH => by
    cases h
    exact hQ a w hH
  | i :: l, σ, a, w, h, hH => by
    cases h with
    | cons h1 h2 =>
      rw [wpOps_cons]
      exact wpOp_mono (fun a' w' h' => steps_sound hG hN hQ h2 h') (step_sound h1 hH hG hN)
theorem holds_nx {n : Nat} (h : Holds A σ a w) : Holds A ⟨σ.tm, σ.hp, n⟩ a w := by
  obtain ⟨ν, h⟩ := h
  exact ⟨ν, h.tm, h.mem, h.ext, h.defers, h.size⟩
end
end Go.Sx
