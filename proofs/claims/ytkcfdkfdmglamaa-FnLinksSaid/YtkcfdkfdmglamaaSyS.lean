/- A function keeps its contract: the whole of it. -/
import Derived.Test.YtkcfdkfdmglamaaSyR
set_option linter.unusedVariables false
set_option linter.unusedSimpArgs false
namespace Go.Sx
/-- The results, as the machine hands them. -/
theorem res_run {P : Program} {A : Cx} {σ : St} {a : Act} {w : World} {ν : Nat → Value} (hH : HoldsAt A σ a w ν) : ∀ (rs : List ResultVar) (vs : List SV), resOf P σ rs = some vs →
    ∃ us, (rs.mapM (fun (r : ResultVar) => match r with
      | .tmp t => (pure (a.tmps.getD t undef) : Sem Value)
      | .cell ad t => do loadVar t (← asAddr (a.tmps.getD ad undef)))).run P w = .ok us w ∧ VsRel σ.hp ν vs us
  | [], vs, h => by
    simp only [resOf, Option.some.injEq] at h
    subst h
    exact ⟨[], by simp, trivial⟩
  | .tmp t :: r, vs, h => by
    simp only [resOf] at h
    split at h
    · rename_i vs' hr
      simp only [Option.some.injEq] at h
      subst h
      obtain ⟨us, h1, h2⟩ := res_run hH r vs' hr
      exact ⟨a.tmps.getD t undef :: us, by rw [List.mapM_cons]; simp only [Sem.run_bind, Sem.run_pure, Result.andThen_ok, h1], ⟨hH.tm t, h2⟩⟩
    · cases h
  | .cell ad t :: r, vs, h => by
    simp only [resOf] at h
    split at h
    · rename_i c v hp' vs' hl hr
      simp only [Option.some.injEq] at h
      subst h
      obtain ⟨us, h1, h2⟩ := res_run hH r vs' hr
      obtain ⟨p, u, hp1, hp2, hp3, _, _⟩ := load_core (w := w) hl (hH.tm ad) hH.mem
      refine ⟨u :: us, ?_, ⟨hp3, h2⟩⟩
      rw [List.mapM_cons]
      have : (do loadVar t (← asAddr (a.tmps.getD ad undef)) : Sem Value).run P w = .ok u w := by
        rw [hp1]; simpa [asAddr] using hp2
      simp only [Sem.run_bind] at this ⊢
      rw [this]
      simp only [Result.andThen_ok, h1, Sem.run_pure]
    · cases h
theorem results_run {P : Program} {A : Cx} {σ : St} {a : Act} {w : World} {ν : Nat → Value} (hH : HoldsAt A σ a w ν) {fn : Func} {vs : List SV} (h : resOf P σ fn.results.toList = some vs) :
    ∃ us, VsRel σ.hp ν vs us ∧ (results fn a.tmps).run P w = .ok (match us with | [u] => u | us => .tuple us.toArray) w := by
  obtain ⟨us, h1, h2⟩ := res_run hH fn.results.toList vs h
  refine ⟨us, h2, ?_⟩
  unfold results
  rw [Array.mapM_eq_mapM_toList]
  simp only [Sem.run_bind]
  have h3 : (List.toArray <$> fn.results.toList.mapM (fun (r : ResultVar) => match r with
      | .tmp t => (pure (a.tmps.getD t undef) : Sem Value)
      | .cell ad t => do loadVar t (← asAddr (a.tmps.getD ad undef)))).run P w = .ok us.toArray w := by
    rw [map_eq_pure_bind]
    simp only [Sem.run_bind, h1, Result.andThen_ok, Sem.run_pure]
  refine (congrArg (fun r => Result.andThen r _) h3).trans ?_
  simp only [Result.andThen_ok, Sem.run_pure]
  match us with
  | [] => rfl
  | [u] => rfl
  | _ :: _ :: _ => rfl
theorem con_sound {P : Program} {f : FuncId} {fn : Func} {c : Code} (con : Con) (F : Fix (OKs con.rk)) (hFP : F.P = P) (hf : P.funcs[f]? = some fn) (hname : (fn.name == "runtime.NumGoroutine") = false) (hb : fn.body = some c)
    (hN : F.N = fn.ntmps) (hak : con.ak.length ≤ fn.ntmps) (hG : ∀ f con', F.G f = some con' → CtrOK P f con') (hD : ∀ A : Cx, A.N = F.N → DrawOK F A)
    (hden : ∀ k x b, con.fn k x = some b → denF (F.C k) con (F.L k) c fn.results.toList x = some b)
    (hsites : ∀ x, ∀ A : Cx, A.hp0 = (st0 con.ak x).hp → A.N = F.N → ∀ p ∈ sites F c (fun k => kret (F.C k) con fn.results.toList (args0 con.ak x) (st0 con.ak x).hp), SiteOK F A p) : CtrOK P f con := by
  subst hFP
  refine ⟨⟨fn, hf, hname, by rw [hb]; rfl⟩, ?_⟩
  intro k x b hfn base G w0 w hp ν args vargs nm hm hargs hmA hap hfree
  have hap' := hap
  unfold apN at hap'
  rw [Bool.and_eq_true, Bool.and_eq_true, Bool.or_eq_true] at hap'
  obtain ⟨hnd, hrd, hwp⟩ := hap'
  -- the begin
  obtain ⟨νc, done, hB, hv0, _, _⟩ := Beg.args (G' := G0 ν (ptrs con.ak args)) (H := ptrs con.ak args) hm con.ak x args vargs.toList 0 (fun _ => .free) (fun _ => .nilFunc) [] _ _ _ (beg0 w hp ν _ _) hmA hargs
    (fun n hn hin => by
      have h1 := List.all_eq_true.1 hrd n hn
      rw [memN_iff.2 hin] at h1
      cases h1) (hwp.symm.imp id (fun h => ptr_box' con.ak x args h hmA)) hnd
    (fun p hp' => ⟨by simp, hp', fun g hg => ⟨p, hp', hg⟩⟩) (rfl : iAs con.ak x 0 (fun _ => .free) = ((iAs con.ak x 0 (fun _ => .free)).1, (iAs con.ak x 0 (fun _ => .free)).2.1, (iAs con.ak x 0 (fun _ => .free)).2.2))
  have hst : st0 con.ak x = ⟨tmOf (iAs con.ak x 0 (fun _ => .free)).1, (iAs con.ak x 0 (fun _ => .free)).2.2, (iAs con.ak x 0 (fun _ => .free)).2.1⟩ := rfl
  have hargs0 : args0 con.ak x = (iAs con.ak x 0 (fun _ => .free)).1 := rfl
  have hvl : vargs.size = con.ak.length := by
    have h1 := vs_len hargs
    have h2 := mAs_len con.ak x args hmA
    simp at h1
    omega
  let A : Cx := ⟨w.heap.size, G0 ν (ptrs con.ak args), w, (st0 con.ak x).hp, νc, F.N⟩
  have hH0 : HoldsAt A (st0 con.ak x) { tmps := vargs ++ Array.replicate (fn.ntmps - vargs.size) undef, defers := [] } w νc := by
    refine ⟨fun t => ?_, hB.mem, .refl _ _, rfl, ?_⟩
    · rw [hst]
      show VRel _ νc (tmOf (iAs con.ak x 0 (fun _ => .free)).1 t) _
      unfold tmOf
      by_cases ht : t < vargs.size
      · obtain ⟨y, v, h1, h2, h3⟩ := vs_get hv0 (i := t) (by simpa using ht)
        rw [List.getD_eq_getElem?_getD, h1]
        have h4 : (vargs ++ Array.replicate (fn.ntmps - vargs.size) undef).getD t undef = v := by
          rw [Array.getD_eq_getD_getElem?, Array.getElem?_append_left ht]
          have : vargs[t]? = some v := by simpa using h2
          rw [this]; rfl
        rw [h4]
        exact h3
      · have h1 : (iAs con.ak x 0 (fun _ => .free)).1[t]? = none := by
          rw [List.getElem?_eq_none]
          have := vs_len hv0
          simp at this
          omega
        rw [List.getD_eq_getElem?_getD, h1]
        have h4 : (vargs ++ Array.replicate (fn.ntmps - vargs.size) undef).getD t undef = undef := by
          rw [Array.getD_eq_getD_getElem?, Array.getElem?_append_right (by omega)]
          by_cases h5 : t - vargs.size < fn.ntmps - vargs.size
          · simp [h5]
          · rw [Array.getElem?_eq_none (by simp; omega)]; rfl
        rw [h4]
        exact undef_rel _ _
    · show (vargs ++ Array.replicate (fn.ntmps - vargs.size) undef).size = F.N
      rw [hN]
      simp
      omega
  -- the end
  have hend : ∀ (k' : Nat) (e : Exit) (σ : St) (a : Act) (w' : World), kret (F.C k') con fn.results.toList (args0 con.ak x) (st0 con.ak x).hp e σ = some b → Holds A σ a w' →
      bodyPost F.P fn (fun e w' => ∃ v ν', e = .returned v ∧ VRel (inOs args con.nres (ptrs con.ak args) con.rk b nm hp).2 ν' (resV con.nres (inOs args con.nres (ptrs con.ak args) con.rk b nm hp).1) v ∧
        Mem base G w0 w' (inOs args con.nres (ptrs con.ak args) con.rk b nm hp).2 ν' ∧ Ext hp ν (inOs args con.nres (ptrs con.ak args) con.rk b nm hp).2 ν') e a w' := by
    intro k' e σ a w' hk hH
    obtain ⟨νF, hH⟩ := hH
    have core : (match resOf F.P σ fn.results.toList with
        | some vs => cnd ((ptrs con.ak (args0 con.ak x)).all (fun p => isBox (σ.hp p)) && Nat.beq vs.length con.nres) (exOs (args0 con.ak x) (st0 con.ak x).hp (ptrs con.ak (args0 con.ak x)) vs (ptrs con.ak (args0 con.ak x)) con.rk σ.hp) none
        | none => none) = some b → a.defers = [] ∧ ∃ v, (results fn a.tmps).run F.P w' = .ok v w' ∧ ∃ v_1 ν', Ending.returned v = .returned v_1 ∧ VRel (inOs args con.nres (ptrs con.ak args) con.rk b nm hp).2 ν' (resV con.nres (inOs args con.nres (ptrs con.ak args) con.rk b nm hp).1) v_1 ∧
        Mem base G w0 w' (inOs args con.nres (ptrs con.ak args) con.rk b nm hp).2 ν' ∧ Ext hp ν (inOs args con.nres (ptrs con.ak args) con.rk b nm hp).2 ν' := by
      intro hcore
      refine ⟨hH.defers, ?_⟩
      split at hcore
      case h_2 => cases hcore
      rename_i vs hvs
      cases hc : ((ptrs con.ak (args0 con.ak x)).all (fun p => isBox (σ.hp p)) && Nat.beq vs.length con.nres) with
      | false => rw [hc] at hcore; exact no_some hcore
      | true =>
        rw [hc] at hcore
        have hex : exOs (args0 con.ak x) (st0 con.ak x).hp (ptrs con.ak (args0 con.ak x)) vs (ptrs con.ak (args0 con.ak x)) con.rk σ.hp = some b := hcore
        rw [Bool.and_eq_true] at hc
        have hlen := Nat.eq_of_beq_eq_true hc.2
        obtain ⟨us, hus, hrun⟩ := results_run (P := F.P) hH hvs
        let N : Fin := ⟨base, G, w0, w, w', hp, ν, νF, νc, ptrs con.ak args, nm + OK.news con.rk, ptrs con.ak (args0 con.ak x)⟩
        have hpairs := pair_args (hp := hp) (ν := ν) (hp0 := (iAs con.ak x 0 (fun _ => .free)).2.2) (ν0 := νc) con.ak x args vargs.toList 0 (fun _ => .free) hmA hargs hv0
        have hextF : ∀ q, (st0 con.ak x).hp q ≠ .free → νF q = νc q := fun q hq => (hH.ext.keep q hq).2
        have hbox0 : ∀ p0, p0 ∈ ptrs con.ak (args0 con.ak x) → ∃ p, p ∈ ptrs con.ak args ∧ True := fun _ _ => by
          cases hpp : ptrs con.ak args with
          | nil => rw [hpp] at hpairs; rename_i p0 hp0; cases hq : ptrs con.ak (iAs con.ak x 0 (fun _ => .free)).1 with
            | nil => rw [hargs0, hq] at hp0; cases hp0
            | cons _ _ => rw [hq] at hpairs; exact hpairs.elim
          | cons p _ => exact ⟨p, List.mem_cons_self, trivial⟩
        have hpairF : PairP νF ν (ptrs con.ak args) (ptrs con.ak (args0 con.ak x)) :=
          pair_sub hpairs (fun q hq => hextF q (ptr_name0 con.ak x 0 (fun _ => .free) q hq))
        have hNok : FinOK N := ⟨hm, ptr_box con.ak x args hmA, hpairF.mem⟩
        have hqs : ∀ q, q ∈ N.qs → q ∈ slA (args0 con.ak x) := fun q hq => ptr_slA con.ak (args0 con.ak x) q hq
        have hal : ∀ i j q, cellOf (args0 con.ak x) i j = .sl q → CRel hp ν (cellOf args i j) (νF q) := by
          intro i j q hq
          obtain ⟨h1, h2⟩ := cell_both (hp0 := (iAs con.ak x 0 (fun _ => .free)).2.2) hv0 hargs hq
          rw [hextF q h2]
          exact h1
        have hold : ∀ p p0, (p, p0) ∈ (ptrs con.ak args).zip (ptrs con.ak (args0 con.ak x)) → ∀ old0 t0 old t1, (st0 con.ak x).hp p0 = .box old0 t0 → hp p = .box old t1 → OldRel N old0 old := by
          intro p p0 hpp old0 t0 old t1 hb0 hb1 j q hj
          have he := pair_zip hpairs p p0 hpp
          have h1 := hB.mem.ent p0
          have hb0' : (iAs con.ak x 0 (fun _ => .free)).2.2 p0 = .box old0 t0 := hb0
          rw [hb0'] at h1
          obtain ⟨g, vs0, hg, hheap, hcs⟩ := h1
          have h2 := hm.ent p
          rw [hb1] at h2
          obtain ⟨g', vs1, hg', hheap', hcs'⟩ := h2
          rw [← he, hg] at hg'
          simp only [Value.pointer.injEq, Option.some.injEq, Addr.mk.injEq, and_true] at hg'
          subst hg'
          rw [hheap] at hheap'
          simp only [Option.some.injEq, Obj.cells.injEq, and_true] at hheap'
          obtain ⟨rfl, _⟩ := hheap'
          obtain ⟨u, hu, hur⟩ := hcs.get hj
          obtain ⟨hnf, hue, A', l', c', hus'⟩ := hur
          show CRel hp ν (old.getD j .any) (νF q)
          rw [hextF q hnf, ← hue]
          exact cs_getD hcs' hu (by rw [hus']; rfl)
        -- the caller's memory, but for the boxes that were handed
        have hfr : ∀ m, lvE (deadOf (ptrs con.ak args) hp m) → ∀ g, blk (ν m) = some g → w'.heap[g]? = w.heap[g]? := by
          intro m hlm g hg
          have hmr : m ∉ ptrs con.ak args := fun h => by rw [deadOf_in h] at hlm; exact hlm
          rw [deadOf_out hmr] at hlm
          have hlt := blk_lt (hm.ent m) hlm g hg
          refine hH.mem.fr.block g hlt ?_
          rintro ⟨p, hp', hpg⟩
          have hbp := ptr_box con.ak x args hmA p hp'
          exact hm.sep p m (fun e => by subst e; exact hmr hp') hbp hlm g hpg hg
        have hdead := deadOf_ext (ν := ν) (rem := ptrs con.ak args) (hp := hp) (fun p hp' hh => by
          have := ptr_box con.ak x args hmA p hp'
          rw [hh] at this
          exact this)
        have hlv : ∀ m, lvE (deadOf (ptrs con.ak args) hp m) → lvE (hp m) ∧ m ∉ ptrs con.ak args := by
          intro m hlm
          have hmr : m ∉ ptrs con.ak args := fun h => by rw [deadOf_in h] at hlm; exact hlm
          rw [deadOf_out hmr] at hlm
          exact ⟨hlm, hmr⟩
        have hmemC : Mem base G w0 w' (deadOf (ptrs con.ak args) hp) ν := by
          refine ⟨fun n => ?_, fun n m hne hwn hlm g hg => ?_, fun n hwn g hg => ?_, ?_⟩
          · by_cases hn : n ∈ ptrs con.ak args
            · rw [deadOf_in hn]; trivial
            · have h1 := hm.ent n
              have h2 : EntRel base hp ν w' (hp n) (ν n) := h1.frame fun hl g hg => hfr n (by rw [deadOf_out hn]; exact hl) g hg
              rw [deadOf_out hn]
              exact h2.mono hdead.1
          · have h1 := hlv n hwn.lv
            have hwn' : wrE (hp n) := by rw [deadOf_out h1.2] at hwn; exact hwn
            exact hm.sep n m hne hwn' (hlv m hlm).1 g hg
          · have h1 := hlv n hwn.lv
            have hwn' : wrE (hp n) := by rw [deadOf_out h1.2] at hwn; exact hwn
            exact hm.mine n hwn' g hg
          · have h1 := hH.mem.fr
            refine ⟨h1.os.trans hm.fr.os, h1.tape.trans hm.fr.tape, h1.output.trans hm.fr.output, Nat.le_trans hm.fr.size h1.size, Nat.le_trans hm.fr.bs h1.size, fun k hk hg => ?_⟩
            refine (h1.block k (Nat.lt_of_lt_of_le hk hm.fr.bs) ?_).trans (hm.fr.block k hk hg)
            rintro ⟨p, hp', hpg⟩
            rcases hm.mine p (ptr_box con.ak x args hmA p hp') k hpg with h2 | h2
            · omega
            · exact hg h2
        have hE : EndI N (ptrs con.ak args) (ptrs con.ak (args0 con.ak x)) nm hp ν σ.hp := by
          refine ⟨hmemC, .refl _ _, fun _ _ => rfl, fun _ h => h, fun n h1 h2 => freeN_some hfree n h1 h2, hH.mem, fun q hq g hg hG m hlm hc => ?_, fun p hp' m hlm g hg hc => ?_, fun p hp' => .inr hp', fun p hp' => isBox_box (List.all_eq_true.1 hc.1 p hp')⟩
          · have h1 := blk_lt (hm.ent m) (hlv m hlm).1 g hc
            rcases hH.mem.mine q hq g hg with h2 | h2
            · have h2 : w.heap.size ≤ g := h2
              omega
            · exact hG h2
          · have h1 := hlv m hlm
            exact hm.sep p m (fun e => by subst e; exact h1.2 hp') (ptr_box con.ak x args hmA p hp') h1.1 g hg hc
        obtain ⟨ν', h1, h2, h3⟩ := EndI.all hNok hpairF (fun _ h => h) hnd hqs hal hold con.rk b vs us nm hp ν σ.hp hE hus hex (Nat.le_refl _)
        rw [hlen] at h1 h2 h3
        refine ⟨_, hrun, _, ν', rfl, ?_, h1, h3⟩
        have hul : us.length = con.nres := by rw [← vs_len hus]; exact hlen
        have h1 : Mem base G w0 w' (inOs args con.nres (ptrs con.ak args) con.rk b nm hp).2 ν' := h1
        have h2 : TsRel (inOs args con.nres (ptrs con.ak args) con.rk b nm hp).2 ν' (inOs args con.nres (ptrs con.ak args) con.rk b nm hp).1 us := h2
        have h3 : Ext hp ν (inOs args con.nres (ptrs con.ak args) con.rk b nm hp).2 ν' := h3
        generalize (inOs args con.nres (ptrs con.ak args) con.rk b nm hp).2 = hpR at h1 h2 h3 ⊢
        generalize hrs : (inOs args con.nres (ptrs con.ak args) con.rk b nm hp).1 = rs at h2 ⊢
        have h2' : TsRel hpR ν' rs us := h2
        match us, rs, h2', hul with
        | [], [], _, hul => rw [← hul]; exact ⟨#[], rfl, trivial⟩
        | [u], [(g, cs)], h2', hul => rw [← hul]; exact h2'.1
        | u :: u2 :: us, r :: r2 :: rs, h2', hul =>
          rw [← hul]
          exact ⟨_, rfl, h2'⟩
    cases e with
    | normal => exact core hk
    | ret => exact core hk
    | exit _ => exact no_some hk
    | goto _ => exact no_some hk
    | panic _ => exact no_some hk
    | outgrown => exact no_some hk
  refine calls_of_wp hf hb ?_
  have hd := hden k x b hfn
  exact den_sound (F := F) (A := A) hG rfl (hD A rfl) c (fun k => kret (F.C k) con fn.results.toList (args0 con.ak x) (st0 con.ak x).hp) _ k (hsites x A rfl rfl)
    (fun k' _ e σ a w' h1 h2 => hend k' e σ a w' h1 h2) k (Nat.le_refl _) (st0 con.ak x) _ w hd ⟨νc, hH0⟩
end Go.Sx
