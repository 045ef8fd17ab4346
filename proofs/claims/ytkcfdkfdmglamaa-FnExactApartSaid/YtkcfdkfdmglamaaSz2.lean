/- A symbolic executor of the model's code, run by the kernel, and that it is sound; plain lemmas. -/
import Derived.Test.YtkcfdkfdmglamaaSz1
/- From a function's walk to its contract. -/
set_option linter.unusedVariables false
set_option linter.unusedSimpArgs false
namespace Go.Sx
theorem inCs_one (args : List SV) (k : RK) (x : k.T) (old : List SC) (nm : Nat) (hp : Hp) : inCs args [k] x old nm hp = (match inC args (old.headD .any) nm hp k x with
    | (a, nm, hp) => ([a], nm, hp)) := rfl
theorem inCs_cons (args : List SV) (k k' : RK) (r : List RK) (x : k.T × RKs (k' :: r)) (old : List SC) (nm : Nat) (hp : Hp) : inCs args (k :: k' :: r) x old nm hp = (match inC args (old.headD .any) nm hp k x.1 with
    | (a, nm, hp) => match inCs args (k' :: r) x.2 old.tail nm hp with
      | (b, nm, hp) => (a :: b, nm, hp)) := rfl
theorem news_cons (k : RK) (r : List RK) : RK.news (k :: r) = RK.news [k] + RK.news r := by
  cases k <;> simp [RK.news] <;> omega
section
variable {F : Fin} {rem remC : List Nat}
/-- What is kept of a box: the same slices. -/
def OldRel (F : Fin) (olds0 olds : List SC) : Prop := ∀ j q, olds0[j]? = some (.sl q) → CRel F.hp F.ν (olds.getD j .any) (F.νF q)
theorem OldRel.head {a b : List SC} (h : OldRel F a b) : ∀ q, a.headD .any = .sl q → CRel F.hp F.ν (b.headD .any) (F.νF q) := by
  intro q hq
  cases a with
  | nil => cases hq
  | cons x xs =>
    have hq : x = .sl q := hq
    have := h 0 q (by rw [hq]; rfl)
    cases b <;> exact this
theorem OldRel.tail {a b : List SC} (h : OldRel F a b) : OldRel F a.tail b.tail := by
  intro j q hq
  cases a with
  | nil => simp at hq
  | cons x xs =>
    have := h (j + 1) q (by simpa using hq)
    cases b <;> simpa using this
theorem OldRel.nil (b : List SC) : OldRel F [] b := fun j q h => by simp at h
theorem EndI.cells (hF : FinOK F) {argsC args : List SV} (hqs : ∀ q, q ∈ F.qs → q ∈ slA argsC) (hal : ∀ i j q, cellOf argsC i j = .sl q → CRel F.hp F.ν (cellOf args i j) (F.νF q)) :
    ∀ (ks : List RK) (b : RKs ks) (xs : List SC) (vs : List Value) (oldsC olds : List SC) (nm : Nat) (hpc : Hp) (νc : Nat → Value) (hpF hpF' : Hp) (scs : List SC) (nm' : Nat) (hpc' : Hp), EndI F rem remC nm hpc νc hpF → exCs argsC ks xs oldsC hpF = some (b, hpF') → CsRel hpF F.νF xs vs →
      inCs args ks b olds nm hpc = (scs, nm', hpc') → nm + RK.news ks ≤ F.top → OldRel F oldsC olds →
      ∃ νc', EndI F rem remC nm' hpc' νc' hpF' ∧ CsRel hpc' νc' scs vs ∧ Ext hpc νc hpc' νc' ∧ Ext hpF F.νF hpF' F.νF ∧ nm' = nm + RK.news ks ∧ (∀ n, n < nm → hpc' n = hpc n)
  | [], b, xs, vs, oldsC, olds, nm, hpc, νc, hpF, hpF', scs, nm', hpc', hE, h, hv, hq, htop, ho => by
    have hq : (([] : List SC), nm, hpc) = (scs, nm', hpc') := hq
    simp only [Prod.mk.injEq] at hq
    obtain ⟨rfl, rfl, rfl⟩ := hq
    match xs, vs, hv with
    | [], [], _ =>
      have h : some ((), hpF) = some (b, hpF') := h
      injection h with h
      injection h with _ h
      subst h
      exact ⟨νc, hE, trivial, .refl _ _, .refl _ _, rfl, fun _ _ => rfl⟩
    | _ :: _, _, _ => exact no_some (α := Unit × Hp) h
  | [k], b, xs, vs, oldsC, olds, nm, hpc, νc, hpF, hpF', scs, nm', hpc', hE, h, hv, hq, htop, ho => by
    match xs, vs, hv with
    | [x], [v], hv =>
      replace hq := (inCs_one args k b olds nm hpc).symm.trans hq
      generalize hq1 : inC args (olds.headD .any) nm hpc k b = q at hq
      obtain ⟨a1, n1, p1⟩ := q
      simp only [Prod.mk.injEq] at hq
      obtain ⟨rfl, rfl, rfl⟩ := hq
      obtain ⟨νc', h1, h2, h3, h4, h5, h6, h7⟩ := hE.cell hF hqs (k := k) (b := b) h hv.1 hq1 htop hal ho.head
      exact ⟨νc', h1, ⟨h2, trivial⟩, h3, h4, h5, h7⟩
    | [], _, _ => exact no_some (α := k.T × Hp) h
    | _ :: _ :: _, _, _ => exact no_some (α := k.T × Hp) h
    | [_], [], hv => exact hv.elim
    | [_], _ :: _ :: _, hv => exact hv.2.elim
  | k :: k' :: r, b, xs, vs, oldsC, olds, nm, hpc, νc, hpF, hpF', scs, nm', hpc', hE, h, hv, hq, htop, ho => by
    match xs, vs, hv with
    | x :: xr, v :: vr, hv =>
      replace h : ((match exC argsC (oldsC.headD .any) hpF k x with
        | some (a, hp) => match exCs argsC (k' :: r) xr oldsC.tail hp with
          | some (b, hp) => some ((a, b), hp)
          | none => none
        | none => none) : Option ((k.T × RKs (k' :: r)) × Hp)) = some (b, hpF') := h
      split at h
      · rename_i a1 hpF1 ha
        split at h
        · rename_i b1 hpF2 hb
          have h : some ((a1, b1), hpF2) = some (b, hpF') := h
          injection h with h
          injection h with h h'
          subst h h'
          replace hq : (match inC args (olds.headD .any) nm hpc k a1 with
            | (a, nm, hp) => match inCs args (k' :: r) b1 olds.tail nm hp with
              | (b, nm, hp) => (a :: b, nm, hp)) = (scs, nm', hpc') := hq
          generalize hq1 : inC args (olds.headD .any) nm hpc k a1 = q at hq
          obtain ⟨s1, n1, p1⟩ := q
          simp only [] at hq
          generalize hq2 : inCs args (k' :: r) b1 olds.tail n1 p1 = q at hq
          obtain ⟨s2, n2, p2⟩ := q
          simp only [Prod.mk.injEq] at hq
          obtain ⟨rfl, rfl, rfl⟩ := hq
          rw [news_cons] at htop ⊢
          obtain ⟨νc1, h1, h2, h3, h4, h5, h6, h7⟩ := hE.cell hF hqs (k := k) (b := a1) ha hv.1 hq1 (by omega) hal ho.head
          obtain ⟨νc2, g1, g2, g3, g4, g5, g7⟩ := EndI.cells hF hqs hal (k' :: r) b1 xr vr oldsC.tail olds.tail n1 p1 νc1 hpF1 hpF2 s2 n2 p2 h1 hb (hv.2.mono h4) hq2 (by omega) ho.tail
          exact ⟨νc2, g1, ⟨h2.mono g3, g2⟩, h3.trans g3, h4.trans g4, by omega, fun n hn => (g7 n (by omega)).trans (h7 n hn)⟩
        · exact no_some (α := (k.T × RKs (k' :: r)) × Hp) h
      · exact no_some (α := (k.T × RKs (k' :: r)) × Hp) h
    | [], _, _ => exact no_some (α := (k.T × RKs (k' :: r)) × Hp) h
    | _ :: _, [], hv => exact hv.elim
theorem beqB_eq {a b : Bool} (h : beqB a b = true) : a = b := by cases a <;> cases b <;> first | rfl | cases h
/-- The blocks of the boxes that were handed, on both sides. -/
def PsRel (F : Fin) (remC : List Nat) : Prop := ∀ p, p ∈ F.ps → ∃ p0, p0 ∈ remC ∧ F.νF p0 = F.ν p
/-- One result is handed back. -/
theorem EndI.val {nm : Nat} {hpc : Hp} {νc : Nat → Value} {hpF : Hp} (hE : EndI F rem remC nm hpc νc hpF) (hF : FinOK F) (hps : ∀ q, q ∈ F.qs → q ∈ remC) {argsC args : List SV} (hqs : ∀ q, q ∈ F.qs → q ∈ slA argsC) (hal : ∀ i j q, cellOf argsC i j = .sl q → CRel F.hp F.ν (cellOf args i j) (F.νF q))
    {k : OK} {x : SV} {b : k.T} {hpF' : Hp} {v : Value} {r : Bool × List SC} {nm' : Nat} {hpc' : Hp}
    (h : exO argsC remC hpF k x = some (b, hpF')) (hv : VRel hpF F.νF x v) (hq : inO args k b nm hpc = (r, nm', hpc')) (htop : nm + OK.news [k] ≤ F.top) :
    ∃ νc', EndI F rem remC nm' hpc' νc' hpF' ∧ ARel hpc' νc' r.1 r.2 v ∧ Ext hpc νc hpc' νc' ∧ Ext hpF F.νF hpF' F.νF ∧ nm' = nm + OK.news [k] := by
  cases k with
  | v g ks =>
    have hnews : OK.news [.v g ks] = RK.news ks := by simp [OK.news]
    rw [hnews] at htop ⊢
    match x with
    | .a g' cs =>
      have h2 : cnd (beqB g g') (exCs argsC ks cs [] hpF) none = some (b, hpF') := h
      clear h
      cases hg : beqB g g' with
      | false => rw [hg] at h2; exact no_some (α := RKs ks × Hp) h2
      | true =>
        rw [hg] at h2
        have := beqB_eq hg
        subst this
        have h3 : exCs argsC ks cs [] hpF = some (b, hpF') := h2
        replace hq : (match inCs args ks b [] nm hpc with | (cs, nm, hp) => ((g, cs), nm, hp)) = (r, nm', hpc') := hq
        generalize hq1 : inCs args ks b [] nm hpc = q at hq
        obtain ⟨s1, n1, p1⟩ := q
        simp only [Prod.mk.injEq] at hq
        obtain ⟨rfl, rfl, rfl⟩ := hq
        cases g with
        | true =>
          obtain ⟨vs, rfl, hcs⟩ := hv
          obtain ⟨νc', h1, h4, h5, h6, h7, _⟩ := EndI.cells hF hqs hal ks b cs vs.toList [] [] nm hpc νc hpF hpF' s1 n1 p1 hE h3 hcs hq1 htop (.nil _)
          exact ⟨νc', h1, ⟨vs, rfl, h4⟩, h5, h6, h7⟩
        | false =>
          obtain ⟨y, rfl, hy⟩ := hv
          obtain ⟨νc', h1, h4, h5, h6, h7, _⟩ := EndI.cells hF hqs hal ks b [y] [v] [] [] nm hpc νc hpF hpF' s1 n1 p1 hE h3 ⟨hy, trivial⟩ hq1 htop (.nil _)
          refine ⟨νc', h1, ?_, h5, h6, h7⟩
          match s1, h4 with
          | [z], h4 => exact ⟨z, rfl, h4.1⟩
          | [], h4 => exact h4.elim
          | _ :: _ :: _, h4 => exact h4.2.elim
    | .any => exact no_some (α := RKs ks × Hp) h
    | .tup _ => exact no_some (α := RKs ks × Hp) h
  | row t e => cases x <;> exact no_some (α := List t.T × Hp) h
  | box ks t =>
    have hnews : OK.news [.box ks t] = RK.news ks + 1 := by simp [OK.news]
    rw [hnews] at htop ⊢
    have bad : ∀ {p : Prop}, (none : Option (RKs ks × Hp)) = some (b, hpF') → p := fun h => no_some h
    match x with
    | .a false [.ptr n 0] =>
      have h2 : (match hpF n with
        | .box cs t' => cnd (Nat.beq t t' && !(memN n remC)) (match exCs argsC ks cs [] hpF with
          | some (a, hp') => some (a, upd hp' n .dead)
          | none => none) none
        | _ => none) = some (b, hpF') := h
      clear h
      cases hb : hpF n with
      | box cs t' =>
        rw [hb] at h2
        have h3 : cnd (Nat.beq t t' && !(memN n remC)) (match exCs argsC ks cs [] hpF with
          | some (a, hp') => some (a, upd hp' n .dead)
          | none => none) none = some (b, hpF') := h2
        clear h2
        cases hc : (Nat.beq t t' && !(memN n remC)) with
        | false => rw [hc] at h3; exact bad h3
        | true =>
          rw [hc] at h3
          have h4' : (match exCs argsC ks cs [] hpF with
            | some (a, hp') => some (a, upd hp' n .dead)
            | none => none) = some (b, hpF') := h3
          clear h3
          rw [Bool.and_eq_true, Bool.not_eq_true'] at hc
          have ht := Nat.eq_of_beq_eq_true hc.1
          subst ht
          have hnr : n ∉ remC := fun hh => by rw [memN_iff.2 hh] at hc; cases hc.2
          replace hq : (match inCs args ks b [] (nm + 1) hpc with | (cs, nm', hp) => ((false, [SC.ptr nm 0]), nm', upd hp nm (.box cs t))) = (r, nm', hpc') := hq
          generalize hq1 : inCs args ks b [] (nm + 1) hpc = q at hq
          obtain ⟨s1, n1, p1⟩ := q
          simp only [Prod.mk.injEq] at hq
          obtain ⟨rfl, rfl, rfl⟩ := hq
          obtain ⟨hnf, g, hg, hvv⟩ := hv.ptr
          have hent := hE.memF.ent n
          rw [hb] at hent
          obtain ⟨g', vs, hg', hheap, hcs⟩ := hent
          rw [hg] at hg'
          simp only [Value.pointer.injEq, Option.some.injEq, Addr.mk.injEq, and_true] at hg'
          subst hg'
          have hbn : wrE (hpF n) := by rw [hb]; trivial
          have hblk : blk (F.νF n) = some g := by rw [hg]; rfl
          have hnq : n ∉ F.qs := fun hin => hnr (hps n hin)
          obtain ⟨hG, hsz⟩ := hE.fresh hF hbn hnq hblk
          have hbase : F.base ≤ F.w.heap.size := hF.mem.fr.bs
          have hfree : hpc nm = .free := hE.free nm (Nat.le_refl _) (by omega)
          cases hex : exCs argsC ks cs [] hpF with
          | none => rw [hex] at h4'; exact bad h4'
          | some res =>
            obtain ⟨b1, hpF1⟩ := res
            rw [hex] at h4'
            have h4 : some (b1, upd hpF1 n .dead) = some (b, hpF') := h4'
            injection h4 with h4
            injection h4 with h4 h4b
            subst h4 h4b
            have hE1 : EndI F rem (n :: remC) (nm + 1) hpc νc hpF :=
              ⟨hE.mem, hE.ext, hE.old, hE.sub, fun m h1 h2 => hE.free m (by omega) h2, hE.memF, hE.cross, hE.sepR, fun p hp => by
                cases hp with
                | head => exact .inl (by rw [hb]; trivial)
                | tail _ hp => exact hE.boxF p hp, hE.allF, hE.nst, hE.nstF⟩
            obtain ⟨νc1, h1, h5, h6, h7, h8, h9⟩ := EndI.cells hF hqs hal ks b1 cs vs.toList [] [] (nm + 1) hpc νc hpF hpF1 s1 n1 p1 hE1 hex hcs hq1 (by omega) (.nil _)
            have hslot : p1 nm = .free := by rw [h9 nm (by omega)]; exact hfree
            have hbn1 : wrE (hpF1 n) := ((h1.boxF n List.mem_cons_self).resolve_right hnq).wr
            have hE2 : EndI F rem remC n1 p1 νc1 hpF1 := ⟨h1.mem, h1.ext, h1.old, h1.sub, h1.free, h1.memF, h1.cross, h1.sepR, fun p hp => h1.boxF p (List.mem_cons_of_mem _ hp), h1.allF, h1.nst, h1.nstF⟩
            have hd1 := deadOf_ext (ν := νc1) (rem := rem) (hp := p1) (fun p hp hh => by
              have h10 := hF.box p (h1.sub p hp)
              rw [← h1.old p hp, hh] at h10
              exact h10)
            have hnr2 := hE2.notrem hF hslot
            have hd2 : deadOf rem p1 nm = .free := by rw [deadOf_out hnr2]; exact hslot
            have hI := hE2.install hF (s := nm) (nm' := n1) hslot (Nat.le_refl _) (by omega) (e := .box s1 t) (v := .pointer (some ⟨g, 0, none⟩)) (by simp) (hpF' := upd hpF1 n .dead)
              ⟨g, vs, rfl, hheap, (h5.mono hd1.1).mono (Ext.new hd2 _ _)⟩ (fun g2 hg2 => by
                have hg2 : some g = some g2 := hg2
                injection hg2 with hg2
                subst hg2
                refine ⟨hG, by omega, fun m hm => h1.cross n hbn1 g hblk hG m hm, fun q hq hc => ?_⟩
                have hqn : q ≠ n := fun e => by subst e; rw [upd_same] at hq; exact hq
                rw [upd_other _ _ hqn] at hq
                exact h1.memF.sep n q (fun e => hqn e.symm) hbn1 hq.lv g hblk hc) trivial (fun g2 hg2 => hE2.notB hF hbn1 hnq (by rw [hg]; exact hg2)) (h1.nstF.turn (by simp) trivial (fun q => q.elim)) (h1.memF.kill n) (fun q hq => by
                have hqn : q ≠ n := fun e => by subst e; rw [upd_same] at hq; exact hq
                rw [upd_other _ _ hqn] at hq
                exact hq) (fun p hp => by
                have hpn : p ≠ n := fun e => by subst e; exact hnr hp
                rw [upd_other _ _ hpn]
                exact h1.boxF p (List.mem_cons_of_mem _ hp)) (fun p hp => by
                have hpn : p ≠ n := fun e => by subst e; exact hnq hp
                rw [upd_other _ _ hpn]
                exact h1.allF p hp)
            refine ⟨_, hI.1, ⟨_, rfl, by rw [upd_same]; simp, g, by rw [upd_same], hvv⟩, h6.trans hI.2, h7.trans (Ext.kill _ _ _), by omega⟩
      | _ => rw [hb] at h2; exact bad h2
    | .a false [.ptr n (m + 1)] => exact bad h
    | .a false [] => exact bad h
    | .a false (x :: _ :: _) => cases x with
      | ptr n m => cases m <;> exact bad h
      | _ => exact bad h
    | .a true _ => exact bad h
    | .any => exact bad h
    | .tup _ => exact bad h
    | .a false [.any] | .a false [.bool _] | .a false [.int _ _] | .a false [.str _] | .a false [.nilp] | .a false [.sl _] | .a false [.nils] | .a false [.ep _ _ _ _] | .a false [.pj _ _ _ _] => exact bad h
/-- One box that was handed. -/
theorem EndI.upd_ {p : Nat} {rem : List Nat} {nm : Nat} {hpc : Hp} {νc : Nat → Value} {hpF : Hp} {p0 : Nat} {remC : List Nat} (hE : EndI F (p :: rem) (p0 :: remC) nm hpc νc hpF) (hF : FinOK F) (hnd : p ∉ rem) (hpp : F.νF p0 = F.ν p) {argsC args : List SV} (hqs : ∀ q, q ∈ F.qs → q ∈ slA argsC) (hal : ∀ i j q, cellOf argsC i j = .sl q → CRel F.hp F.ν (cellOf args i j) (F.νF q))
    {hp0 : Hp} {k : OK} {b : k.T} {hpF' : Hp} {nm' : Nat} {hpc' : Hp} (h : exU argsC hp0 hpF p0 k = some (b, hpF')) (hq : upO args p k b nm hpc = (nm', hpc')) (htop : nm + OK.news [k] ≤ F.top + 1)
    (hold : ∀ old0 t0 old t1, hp0 p0 = .box old0 t0 → F.hp p = .box old t1 → OldRel F old0 old) :
    ∃ νc', EndI F rem remC nm' hpc' νc' hpF' ∧ Ext hpc νc hpc' νc' ∧ nm' + 1 = nm + OK.news [k] := by
  cases k with
  | v g ks => exact no_some (α := RKs ks × Hp) h
  | box ks t =>
    have hnews : OK.news [.box ks t] = RK.news ks + 1 := by simp [OK.news]
    rw [hnews] at htop ⊢
    have bad : ∀ {p : Prop}, (none : Option (RKs ks × Hp)) = some (b, hpF') → p := fun h => no_some h
    have hpin : p ∈ p :: rem := List.mem_cons_self
    have hboxp := hF.box p (hE.sub p hpin)
    have hoc := hE.old p hpin
    have h2 : (match hp0 p0, hpF p0 with
      | .box old _, .box cs t' => cnd (Nat.beq t t') (exCs argsC ks cs old hpF) none
      | _, _ => none) = some (b, hpF') := h
    clear h
    cases hb0 : hp0 p0 with
    | box old0 t0 =>
      rw [hb0] at h2
      cases hbF : hpF p0 with
      | box cs t' =>
        rw [hbF] at h2
        have h3 : cnd (Nat.beq t t') (exCs argsC ks cs old0 hpF) none = some (b, hpF') := h2
        clear h2
        cases ht : Nat.beq t t' with
        | false => rw [ht] at h3; exact bad h3
        | true =>
          rw [ht] at h3
          have h4 : exCs argsC ks cs old0 hpF = some (b, hpF') := h3
          have := Nat.eq_of_beq_eq_true ht
          subst this
          have hgb : ∃ old t1, F.hp p = .box old t1 := by
            have hent := hE.memF.ent p0
            rw [hbF] at hent
            obtain ⟨g, vs, hg, hheap, hcs⟩ := hent
            have hep := hF.mem.ent p
            rw [← hpp, hg] at hep
            cases hbp : F.hp p with
            | box old t1 => exact ⟨old, t1, rfl⟩
            | row t2 l2 e2 =>
              rw [hbp] at hep
              rcases hep.2 with ⟨h5, _⟩ | ⟨g', cap, cur, h5, _⟩ <;> cases h5
            | ex t2 l2 e2 =>
              rw [hbp] at hep
              rcases hep with ⟨h5, _⟩ | ⟨g', off, c, vs2, e3, fz, h5, _⟩ <;> cases h5
            | free => rw [hbp] at hboxp; exact hboxp.elim
            | dead => rw [hbp] at hboxp; exact hboxp.elim
            | ro t2 l2 e2 => rw [hbp] at hboxp; exact hboxp.elim
            | nro t2 l2 e2 => rw [hbp] at hboxp; exact hboxp.elim
            | gh => rw [hbp] at hboxp; exact hboxp.elim
            | nrow t2 l2 e2 =>
              rw [hbp] at hep
              obtain ⟨fl, hep⟩ := hep
              rcases hep.2 with ⟨h5, _⟩ | ⟨g', cap, cur, h5, _⟩ <;> cases h5
          cases hbp : F.hp p with
          | box old t1 =>
            rw [hbp] at hoc
            have hq : (match hpc p with
              | .box old _ => match inCs args ks b old nm hpc with
                | (cs, nm, hp) => (nm, upd hp p (.box cs t))
              | _ => (nm, hpc)) = (nm', hpc') := hq
            rw [hoc] at hq
            replace hq : (match inCs args ks b old nm hpc with
                | (cs, nm, hp) => (nm, upd hp p (.box cs t))) = (nm', hpc') := hq
            generalize hq1 : inCs args ks b old nm hpc = q at hq
            obtain ⟨s1, n1, p1⟩ := q
            simp only [Prod.mk.injEq] at hq
            obtain ⟨rfl, rfl⟩ := hq
            have hent := hE.memF.ent p0
            rw [hbF] at hent
            obtain ⟨g, vs, hg, hheap, hcs⟩ := hent
            obtain ⟨νc1, h1, h5, h6, h7, h8, h9⟩ := EndI.cells hF hqs hal ks b cs vs.toList old0 old nm hpc νc hpF hpF' s1 n1 p1 hE h4 hcs hq1 (by omega) (hold old0 t0 old t1 hb0 hbp)
            have hνp : νc1 p = .pointer (some ⟨g, 0, none⟩) := by
              have hnf : F.hp p ≠ .free := by rw [hbp]; simp
              rw [(h1.ext.keep p hnf).2, ← hpp, hg]
            have hνpF : F.ν p = .pointer (some ⟨g, 0, none⟩) := by rw [← hpp, hg]
            have hd1 := deadOf_ext (ν := νc1) (rem := p :: rem) (hp := p1) (fun p2 hp2 hh => by
              have h10 := hF.box p2 (h1.sub p2 hp2)
              rw [← h1.old p2 hp2, hh] at h10
              exact h10)
            have hdp : deadOf (p :: rem) p1 p = .dead := deadOf_in hpin
            have hfn : deadOf rem (upd p1 p (.box s1 t)) = upd (deadOf (p :: rem) p1) p (.box s1 t) := by
              rw [deadOf_upd hnd]
              funext m
              by_cases hm : m = p
              · subst hm; rw [upd_same, upd_same]
              · rw [upd_other _ _ hm, upd_other _ _ hm]
                by_cases hmr : m ∈ rem
                · rw [deadOf_in hmr, deadOf_in (List.mem_cons_of_mem _ hmr)]
                · rw [deadOf_out hmr, deadOf_out (by simp [hm, hmr])]
            have hlive : ∀ m, lvE (deadOf rem (upd p1 p (.box s1 t)) m) → m = p ∨ lvE (deadOf (p :: rem) p1 m) := by
              intro m hm
              rw [hfn] at hm
              by_cases hmp : m = p
              · exact .inl hmp
              · rw [upd_other _ _ hmp] at hm; exact .inr hm
            have hext2 : Ext (deadOf (p :: rem) p1) νc1 (upd (deadOf (p :: rem) p1) p (.box s1 t)) νc1 := ⟨fun n hn => ⟨by
              by_cases hnp : n = p
              · subst hnp; rw [upd_same]; simp
              · rw [upd_other _ _ hnp]; exact hn, rfl⟩⟩
            have hext3 : Ext p1 νc1 (upd p1 p (.box s1 t)) νc1 := ⟨fun n hn => ⟨by
              by_cases hnp : n = p
              · subst hnp; rw [upd_same]; simp
              · rw [upd_other _ _ hnp]; exact hn, rfl⟩⟩
            have hns := h1.nst.turn (p := p) (e := .box s1 t) (by simp) trivial (fun _ g2 hg2 => by
              rw [hνp] at hg2
              exact hF.notB (hE.sub p hpin) (by rw [hνpF]; exact hg2))
            have hmem := h1.mem.revive (p := p) (by rw [hdp]; exact fun h => h) (by rw [hdp]; simp) (e := .box s1 t) (by simp) ⟨g, vs, hνp, hheap, (h5.mono hd1.1).mono hext2⟩
              (fun m hm g2 hg2 hc => by
                rw [hνp] at hg2
                exact h1.sepR p hpin m hm g2 (by rw [hνpF]; exact hg2) hc) (fun g2 hg2 => by
                rw [hνp] at hg2
                exact hF.mem.mine p hboxp g2 (by rw [hνpF]; exact hg2)) ⟨_, hns⟩
            refine ⟨νc1, ⟨by rw [hfn]; exact hmem, h1.ext.trans hext3, fun p2 hp2 => ?_, fun p2 hp2 => h1.sub p2 (List.mem_cons_of_mem _ hp2), fun m h10 h11 => ?_, h1.memF, fun q hqw g2 hg2 hG m hm => ?_, fun p2 hp2 m hm g2 hg2 => ?_, fun p2 hp2 => h1.boxF p2 (List.mem_cons_of_mem _ hp2), h1.allF, by rw [hfn]; exact hns, h1.nstF⟩, h6.trans hext3, by omega⟩
            · have : p2 ≠ p := fun e => by subst e; exact hnd hp2
              rw [upd_other _ _ this]
              exact h1.old p2 (List.mem_cons_of_mem _ hp2)
            · have hmp : m ≠ p := fun e => by
                subst e
                have h12 := h1.free m h10 h11
                have h13 := h1.old m hpin
                rw [h12, hbp] at h13
                cases h13
              rw [upd_other _ _ hmp]
              exact h1.free m h10 h11
            · rcases hlive m hm with rfl | hm
              · intro hc
                rw [hνp] at hc
                exact hG ⟨m, h1.sub m hpin, by rw [hνpF]; exact hc⟩
              · exact h1.cross q hqw g2 hg2 hG m hm
            · rcases hlive m hm with rfl | hm
              · intro hc
                rw [hνp] at hc
                have hne : p2 ≠ m := fun e => by subst e; exact hnd hp2
                have hb2 := hF.box p2 (h1.sub p2 (List.mem_cons_of_mem _ hp2))
                exact hF.mem.sep p2 m hne hb2 hboxp.lv g2 hg2 (by rw [hνpF]; exact hc)
              · exact h1.sepR p2 (List.mem_cons_of_mem _ hp2) m hm g2 hg2
          | _ =>
            obtain ⟨old, t1, hgb⟩ := hgb
            rw [hbp] at hgb
            cases hgb
      | _ => rw [hbF] at h2; exact bad h2
    | _ => rw [hb0] at h2; exact bad h2
  | row t e =>
    have hnews : OK.news [.row t e] = 1 := rfl
    rw [hnews] at htop ⊢
    have hpin : p ∈ p :: rem := List.mem_cons_self
    have hboxp := hF.box p (hE.sub p hpin)
    have hrow : hpF p0 = .row t b e ∧ hpF' = hpF := by
      have h2 : (match hpF p0 with
        | .row t' l e' => match t'.dec t with
          | some ⟨h⟩ => cnd (Nat.beq e e') (some ((h ▸ l : List t.T), hpF)) none
          | none => none
        | _ => none) = some (b, hpF') := h
      clear h
      cases hr : hpF p0 with
      | row t' l e' =>
        rw [hr] at h2
        have h3 : (match t'.dec t with
          | some ⟨h⟩ => cnd (Nat.beq e e') (some ((h ▸ l : List t.T), hpF)) none
          | none => none) = some (b, hpF') := h2
        clear h2
        split at h3
        · rename_i heq _
          subst heq
          cases he : Nat.beq e e' with
          | false => rw [he] at h3; exact no_some (α := List t'.T × Hp) h3
          | true =>
            rw [he] at h3
            have := Nat.eq_of_beq_eq_true he
            subst this
            have h4 : some (l, hpF) = some (b, hpF') := h3
            injection h4 with h4
            injection h4 with h4 h5
            subst h4
            exact ⟨rfl, h5.symm⟩
        · exact no_some h3
      | _ => rw [hr] at h2; exact no_some (α := List t.T × Hp) h2
    obtain ⟨hrow, rfl⟩ := hrow
    have hq : (nm, upd hpc p (.row t b e)) = (nm', hpc') := hq
    simp only [Prod.mk.injEq] at hq
    obtain ⟨rfl, rfl⟩ := hq
    have hent := hE.memF.ent p0
    rw [hrow, hpp] at hent
    have hent : F.wF.ownsRow 0 e t.size (F.ν p) b.length (t.flat b) := hent
    have hpf : F.hp p ≠ .free := fun hh => by rw [hh] at hboxp; exact hboxp.elim
    have hνp : νc p = F.ν p := (hE.ext.keep p hpf).2
    have hdp : deadOf (p :: rem) hpc p = .dead := deadOf_in hpin
    have hfn : deadOf rem (upd hpc p (.row t b e)) = upd (deadOf (p :: rem) hpc) p (.row t b e) := by
      rw [deadOf_upd hnd]
      funext m
      by_cases hm : m = p
      · subst hm; rw [upd_same, upd_same]
      · rw [upd_other _ _ hm, upd_other _ _ hm]
        by_cases hmr : m ∈ rem
        · rw [deadOf_in hmr, deadOf_in (List.mem_cons_of_mem _ hmr)]
        · rw [deadOf_out hmr, deadOf_out (by simp [hm, hmr])]
    have hlive : ∀ m, lvE (deadOf rem (upd hpc p (.row t b e)) m) → m = p ∨ lvE (deadOf (p :: rem) hpc m) := by
      intro m hm
      rw [hfn] at hm
      by_cases hmp : m = p
      · exact .inl hmp
      · rw [upd_other _ _ hmp] at hm; exact .inr hm
    have hext3 : Ext hpc νc (upd hpc p (.row t b e)) νc := ⟨fun n hn => ⟨by
      by_cases hnp : n = p
      · subst hnp; rw [upd_same]; simp
      · rw [upd_other _ _ hnp]; exact hn, rfl⟩⟩
    have hns := hE.nst.turn (p := p) (e := .row t b e) (by simp) trivial (fun _ g2 hg2 => by
      rw [hνp] at hg2
      exact hF.notB (hE.sub p hpin) hg2)
    have hmem := hE.mem.revive (p := p) (by rw [hdp]; exact fun h => h) (by rw [hdp]; simp) (e := .row t b e) (by simp) (by rw [hνp]; exact hent)
      (fun m hm g2 hg2 hc => by
        rw [hνp] at hg2
        exact hE.sepR p hpin m hm g2 hg2 hc) (fun g2 hg2 => by
        rw [hνp] at hg2
        exact hF.mem.mine p hboxp g2 hg2) ⟨_, hns⟩
    refine ⟨νc, ⟨by rw [hfn]; exact hmem, hE.ext.trans hext3, fun p2 hp2 => ?_, fun p2 hp2 => hE.sub p2 (List.mem_cons_of_mem _ hp2), fun m h10 h11 => ?_, hE.memF, fun q hqw g2 hg2 hG m hm => ?_, fun p2 hp2 m hm g2 hg2 => ?_, fun p2 hp2 => hE.boxF p2 (List.mem_cons_of_mem _ hp2), hE.allF, by rw [hfn]; exact hns, hE.nstF⟩, hext3, rfl⟩
    · have : p2 ≠ p := fun e => by subst e; exact hnd hp2
      rw [upd_other _ _ this]
      exact hE.old p2 (List.mem_cons_of_mem _ hp2)
    · have hmp : m ≠ p := fun e => by
        subst e
        have h12 := hE.free m h10 h11
        have h13 := hE.old m hpin
        rw [h12] at h13
        exact hpf h13.symm
      rw [upd_other _ _ hmp]
      exact hE.free m h10 h11
    · rcases hlive m hm with rfl | hm
      · intro hc
        rw [hνp] at hc
        exact hG ⟨m, hE.sub m hpin, hc⟩
      · exact hE.cross q hqw g2 hg2 hG m hm
    · rcases hlive m hm with rfl | hm
      · intro hc
        rw [hνp] at hc
        have hne : p2 ≠ m := fun e => by subst e; exact hnd hp2
        have hb2 := hF.box p2 (hE.sub p2 (List.mem_cons_of_mem _ hp2))
        exact hF.mem.sep p2 m hne hb2 hboxp.lv g2 hg2 hc
      · exact hE.sepR p2 (List.mem_cons_of_mem _ hp2) m hm g2 hg2
end
end Go.Sx
/- A function's contract out of its walk. -/
set_option linter.unusedVariables false
set_option linter.unusedSimpArgs false
namespace Go.Sx
/-- Boxes that were handed, name by name. -/
def PairP (νF ν : Nat → Value) : List Nat → List Nat → Prop
  | [], [] => True
  | p :: ps, q :: qs => νF q = ν p ∧ PairP νF ν ps qs
  | _, _ => False
theorem PairP.mem {νF ν : Nat → Value} : ∀ {ps qs : List Nat}, PairP νF ν ps qs → ∀ p, p ∈ ps → ∃ q, q ∈ qs ∧ νF q = ν p
  | [], [], _, p, hp => by cases hp
  | p' :: ps, q :: qs, h, p, hp => by
    cases hp with
    | head => exact ⟨q, List.mem_cons_self, h.1⟩
    | tail _ hp =>
      obtain ⟨q', h1, h2⟩ := PairP.mem h.2 p hp
      exact ⟨q', List.mem_cons_of_mem _ h1, h2⟩
  | [], _ :: _, h, _, _ => h.elim
  | _ :: _, [], h, _, _ => h.elim
theorem onews_cons (k : OK) (r : List OK) : OK.news (k :: r) = OK.news [k] + OK.news r := by
  cases k <;> simp [OK.news]
theorem vs_mono {hp hp' : Hp} {ν ν' : Nat → Value} (h : Ext hp ν hp' ν') : ∀ {xs : List SV} {vs : List Value}, VsRel hp ν xs vs → VsRel hp' ν' xs vs
  | [], [], _ => trivial
  | _ :: _, _ :: _, hx => ⟨hx.1.mono h, vs_mono h hx.2⟩
  | [], _ :: _, hx => hx.elim
  | _ :: _, [], hx => hx.elim
section
variable {F : Fin}
theorem EndI.ups (hF : FinOK F) {argsC args : List SV} (hqs : ∀ q, q ∈ F.qs → q ∈ slA argsC) (hal : ∀ i j q, cellOf argsC i j = .sl q → CRel F.hp F.ν (cellOf args i j) (F.νF q)) {hp0 : Hp} {ps0 : List Nat} :
    ∀ (ks : List OK) (b : OKs ks) (rem remC : List Nat) (nm : Nat) (hpc : Hp) (νc : Nat → Value) (hpF : Hp), EndI F rem remC nm hpc νc hpF → PairP F.νF F.ν rem remC → nodupN rem = true →
      (∀ p p0, (p, p0) ∈ rem.zip remC → ∀ old0 t0 old t1, hp0 p0 = .box old0 t0 → F.hp p = .box old t1 → OldRel F old0 old) → exOs argsC hp0 ps0 [] remC ks hpF = some b → nm + OK.news ks ≤ F.top →
      ∃ νc', Mem F.base F.G F.w0 F.wF (inOs args 0 rem ks b nm hpc).2 νc' ∧ (inOs args 0 rem ks b nm hpc).1 = [] ∧ Ext hpc νc (inOs args 0 rem ks b nm hpc).2 νc'
  | [], b, rem, remC, nm, hpc, νc, hpF, hE, hp, hnd, hold, h, htop => by
    match rem, remC, hp with
    | [], [], _ => exact ⟨νc, by have := hE.mem; rw [deadOf_nil] at this; exact this, rfl, .refl _ _⟩
    | _ :: _, _ :: qs, _ => cases qs <;> exact no_some (α := Unit) h
  | [k], b, rem, remC, nm, hpc, νc, hpF, hE, hp, hnd, hold, h, htop => by
    match rem, remC, hp with
    | [p], [p0], hp =>
      have h2 : (match exU argsC hp0 hpF p0 k with
        | some (a, _) => some a
        | none => none) = some b := h
      cases hx : exU argsC hp0 hpF p0 k with
      | none => rw [hx] at h2; exact no_some h2
      | some res =>
        obtain ⟨b', hpF'⟩ := res
        rw [hx] at h2
        have h3 : some b' = some b := h2
        injection h3 with h3
        subst h3
        generalize hq : upO args p k b' nm hpc = q
        obtain ⟨n1, p1⟩ := q
        obtain ⟨νc', h4, h5, h6⟩ := hE.upd_ hF (by simp) hp.1 hqs hal hx hq (by omega) (hold p p0 (by simp))
        have hio : inOs args 0 [p] [k] b' nm hpc = ([], p1) := by
          show ([], (upO args p k b' nm hpc).2) = _
          rw [hq]
        rw [hio]
        exact ⟨νc', by have := h4.mem; rw [deadOf_nil] at this; exact this, rfl, h5⟩
    | [], [], _ => exact no_some (α := k.T) h
    | _ :: _ :: _, _ :: _ :: _, _ => exact no_some (α := k.T) h
    | [_], _ :: _ :: _, hp => exact hp.2.elim
    | _ :: _ :: _, [_], hp => exact hp.2.elim
  | k :: k' :: r, b, rem, remC, nm, hpc, νc, hpF, hE, hp, hnd, hold, h, htop => by
    match rem, remC, hp with
    | p :: rem, p0 :: remC, hp =>
      have h2 : ((match exU argsC hp0 hpF p0 k with
        | some (a, hp) => match exOs argsC hp0 ps0 [] remC (k' :: r) hp with
          | some b => some (a, b)
          | none => none
        | none => none) : Option (k.T × OKs (k' :: r))) = some b := by cases remC <;> exact h
      clear h
      cases hx : exU argsC hp0 hpF p0 k with
      | none => rw [hx] at h2; exact no_some (α := k.T × OKs (k' :: r)) h2
      | some res =>
        obtain ⟨a', hpF'⟩ := res
        rw [hx] at h2
        simp only [] at h2
        cases hy : exOs argsC hp0 ps0 [] remC (k' :: r) hpF' with
        | none => rw [hy] at h2; exact no_some (α := k.T × OKs (k' :: r)) h2
        | some b' =>
          rw [hy] at h2
          have h3 : some (a', b') = some b := h2
          injection h3 with h3
          subst h3
          generalize hq : upO args p k a' nm hpc = q
          obtain ⟨n1, p1⟩ := q
          rw [onews_cons] at htop
          simp only [nodupN, Bool.and_eq_true, Bool.not_eq_true'] at hnd
          have hpr : p ∉ rem := fun hh => by rw [memN_iff.2 hh] at hnd; cases hnd.1
          obtain ⟨νc', h4, h5, h6⟩ := hE.upd_ hF hpr hp.1 hqs hal hx hq (by omega) (hold p p0 (by simp))
          obtain ⟨νc2, g1, g2, g3⟩ := EndI.ups hF hqs hal (k' :: r) b' rem remC n1 p1 νc' hpF' h4 hp.2 hnd.2 (fun p2 p02 h7 => hold p2 p02 (by simp [h7])) hy (by omega)
          have hio : inOs args 0 (p :: rem) (k :: k' :: r) (a', b') nm hpc = inOs args 0 rem (k' :: r) b' n1 p1 := by
            show (match upO args p k a' nm hpc with
              | (nm, hp) => inOs args 0 rem (k' :: r) b' nm hp) = _
            rw [hq]
          rw [hio]
          exact ⟨νc2, g1, g2, h5.trans g3⟩
    | [], [], _ => exact no_some (α := k.T × OKs (k' :: r)) h
theorem EndI.all (hF : FinOK F) {remC : List Nat} (hps : PairP F.νF F.ν F.ps remC) (hrq : ∀ q, q ∈ F.qs → q ∈ remC) (hnd : nodupN F.ps = true) {argsC args : List SV} (hqs : ∀ q, q ∈ F.qs → q ∈ slA argsC) (hal : ∀ i j q, cellOf argsC i j = .sl q → CRel F.hp F.ν (cellOf args i j) (F.νF q)) {hp0 : Hp}
    (hold : ∀ p p0, (p, p0) ∈ F.ps.zip remC → ∀ old0 t0 old t1, hp0 p0 = .box old0 t0 → F.hp p = .box old t1 → OldRel F old0 old) :
    ∀ (ks : List OK) (b : OKs ks) (xs : List SV) (vs : List Value) (nm : Nat) (hpc : Hp) (νc : Nat → Value) (hpF : Hp), EndI F F.ps remC nm hpc νc hpF → VsRel hpF F.νF xs vs → exOs argsC hp0 remC xs remC ks hpF = some b → nm + OK.news ks ≤ F.top →
      ∃ νc', Mem F.base F.G F.w0 F.wF (inOs args xs.length F.ps ks b nm hpc).2 νc' ∧ TsRel (inOs args xs.length F.ps ks b nm hpc).2 νc' (inOs args xs.length F.ps ks b nm hpc).1 vs ∧ Ext hpc νc (inOs args xs.length F.ps ks b nm hpc).2 νc'
  | ks, b, [], vs, nm, hpc, νc, hpF, hE, hv, h, htop => by
    match vs, hv with
    | [], _ =>
      obtain ⟨νc', h1, h2, h3⟩ := EndI.ups hF hqs hal ks b F.ps remC nm hpc νc hpF hE hps hnd hold h htop
      exact ⟨νc', h1, by rw [List.length_nil, h2]; trivial, h3⟩
  | [], b, x :: xs, vs, nm, hpc, νc, hpF, hE, hv, h, htop => by
    have : exOs argsC hp0 remC (x :: xs) remC [] hpF = none := by cases xs <;> cases remC <;> first | rfl | (rename_i qs; cases qs <;> rfl)
    rw [this] at h
    exact no_some h
  | [k], b, x :: xs, vs, nm, hpc, νc, hpF, hE, hv, h, htop => by
    match xs, vs, hv with
    | [], [v], hv =>
      match hrc : remC with
      | p :: qs => subst hrc; exact no_some (α := k.T) h
      | [] =>
        subst hrc
        have h2 : (match exO argsC [] hpF k x with
          | some (a, _) => some a
          | none => none) = some b := h
        cases hx : exO argsC [] hpF k x with
        | none => rw [hx] at h2; exact no_some h2
        | some res =>
          obtain ⟨b', hpF'⟩ := res
          rw [hx] at h2
          have h3 : some b' = some b := h2
          injection h3 with h3
          subst h3
          generalize hq : inO args k b' nm hpc = q
          obtain ⟨r, n1, p1⟩ := q
          obtain ⟨νc', h4, h5, h6, h7, h8⟩ := hE.val hF hrq hqs hal hx hv.1 hq htop
          have hio : inOs args 1 F.ps [k] b' nm hpc = ([r], p1) := by
            show (match inO args k b' nm hpc with
              | (v, nm, hp) => ([v], hp)) = _
            rw [hq]
          have hpsn : F.ps = [] := by
            cases hfp : F.ps with
            | nil => rfl
            | cons p ps => rw [hfp] at hps; exact hps.elim
          show ∃ νc', Mem F.base F.G F.w0 F.wF (inOs args 1 F.ps [k] b' nm hpc).2 νc' ∧ _
          refine ⟨νc', ?_, ?_, ?_⟩
          · show Mem F.base F.G F.w0 F.wF (inOs args 1 F.ps [k] b' nm hpc).2 νc'
            rw [hio]
            have := h4.mem
            rw [hpsn, deadOf_nil] at this
            exact this
          · show TsRel (inOs args 1 F.ps [k] b' nm hpc).2 νc' (inOs args 1 F.ps [k] b' nm hpc).1 [v]
            rw [hio]
            exact ⟨h5, trivial⟩
          · show Ext hpc νc (inOs args 1 F.ps [k] b' nm hpc).2 νc'
            rw [hio]
            exact h6
    | _ :: _, _, _ => exact no_some (α := k.T) h
    | [], _ :: _ :: _, hv => exact hv.2.elim
    | [], [], hv => exact hv.elim
  | k :: k' :: r, b, x :: xs, vs, nm, hpc, νc, hpF, hE, hv, h, htop => by
    match vs, hv with
    | v :: vs, hv =>
      have h2 : ((match exO argsC remC hpF k x with
        | some (a, hp) => match exOs argsC hp0 remC xs remC (k' :: r) hp with
          | some b => some (a, b)
          | none => none
        | none => none) : Option (k.T × OKs (k' :: r))) = some b := by
          cases xs with
          | nil => cases remC <;> exact h
          | cons _ _ => exact h
      clear h
      cases hx : exO argsC remC hpF k x with
      | none => rw [hx] at h2; exact no_some (α := k.T × OKs (k' :: r)) h2
      | some res =>
        obtain ⟨a', hpF'⟩ := res
        rw [hx] at h2
        simp only [] at h2
        cases hy : exOs argsC hp0 remC xs remC (k' :: r) hpF' with
        | none => rw [hy] at h2; exact no_some (α := k.T × OKs (k' :: r)) h2
        | some b' =>
          rw [hy] at h2
          have h3 : some (a', b') = some b := h2
          injection h3 with h3
          subst h3
          generalize hq : inO args k a' nm hpc = q
          obtain ⟨r1, n1, p1⟩ := q
          rw [onews_cons] at htop
          obtain ⟨νc', h4, h5, h6, h7, h8⟩ := hE.val hF hrq hqs hal hx hv.1 hq (by omega)
          have hvs : VsRel hpF' F.νF xs vs := vs_mono h7 hv.2
          obtain ⟨νc2, g1, g2, g3⟩ := EndI.all hF hps hrq hnd hqs hal hold (k' :: r) b' xs vs n1 p1 νc' hpF' h4 hvs hy (by omega)
          have hio : inOs args (xs.length + 1) F.ps (k :: k' :: r) (a', b') nm hpc = (r1 :: (inOs args xs.length F.ps (k' :: r) b' n1 p1).1, (inOs args xs.length F.ps (k' :: r) b' n1 p1).2) := by
            show (match inO args k a' nm hpc with
              | (v, nm, hp) => match inOs args xs.length F.ps (k' :: r) b' nm hp with
                | (vs, hp) => (v :: vs, hp)) = _
            rw [hq]
          show ∃ νc', Mem F.base F.G F.w0 F.wF (inOs args (xs.length + 1) F.ps (k :: k' :: r) (a', b') nm hpc).2 νc' ∧ TsRel (inOs args (xs.length + 1) F.ps (k :: k' :: r) (a', b') nm hpc).2 νc' (inOs args (xs.length + 1) F.ps (k :: k' :: r) (a', b') nm hpc).1 (v :: vs) ∧ Ext hpc νc (inOs args (xs.length + 1) F.ps (k :: k' :: r) (a', b') nm hpc).2 νc'
          rw [hio]
          exact ⟨νc2, g1, ⟨h5.mono g3, g2⟩, h6.trans g3⟩
    | [], hv => exact hv.elim
end
end Go.Sx
/- A function keeps its contract. -/
set_option linter.unusedVariables false
set_option linter.unusedSimpArgs false
namespace Go.Sx
section
variable {P : Program} {base : Nat} {G : Nat → Prop} {w0 w : World} {hp hp0 : Hp} {ν ν0 : Nat → Value}
theorem beg0 {B : Nat → Prop} (hB : NestOK base G w hp ν B) (G' : Nat → Prop) (H : List Nat) : Beg base G B w hp ν G' H 0 (fun _ => .free) (fun _ => .nilFunc) [] :=
  have hn : NestOK w.heap.size G' w (fun _ => .free) (fun _ => .nilFunc) B := ⟨fun _ => trivial, fun _ h => h.elim, hB.lt⟩
  ⟨⟨fun _ => trivial, fun _ _ _ h => h.elim, fun _ h => h.elim, ⟨rfl, rfl, rfl, Nat.le_refl _, Nat.le_refl _, fun _ _ _ => rfl⟩, ⟨B, hn⟩⟩, fun _ _ => rfl, hB, hn, fun _ h => h.elim, fun _ h => by cases h⟩
theorem vs_len : ∀ {xs : List SV} {vs : List Value}, VsRel hp ν xs vs → xs.length = vs.length
  | [], [], _ => rfl
  | _ :: _, _ :: _, h => by simp [vs_len h.2]
  | [], _ :: _, h => h.elim
  | _ :: _, [], h => h.elim
theorem vs_get : ∀ {xs : List SV} {vs : List Value} {i : Nat}, VsRel hp ν xs vs → i < vs.length → ∃ x v, xs[i]? = some x ∧ vs[i]? = some v ∧ VRel hp ν x v
  | x :: xs, v :: vs, 0, h, _ => ⟨x, v, rfl, rfl, h.1⟩
  | x :: xs, v :: vs, i + 1, h, hi => by
    obtain ⟨x', v', h1, h2, h3⟩ := vs_get (i := i) h.2 (by simpa using hi)
    exact ⟨x', v', by simpa using h1, by simpa using h2, h3⟩
  | [], [], _, _, hi => by simp at hi
  | [], _ :: _, _, h, _ => h.elim
  | _ :: _, [], _, h, _ => h.elim
theorem cs_getD {xs : List SC} {vs : List Value} (h : CsRel hp ν xs vs) {j : Nat} {v : Value} (hv : vs[j]? = some v) (h1 : v.oneCell' = true) : CRel hp ν (xs.getD j .any) v := by
  cases hx : xs[j]? with
  | none => rw [List.getD_eq_getElem?_getD, hx]; exact h1
  | some x =>
    obtain ⟨v', hv', hr⟩ := h.get hx
    rw [hv] at hv'
    injection hv' with hv'
    subst hv'
    rw [List.getD_eq_getElem?_getD, hx]
    exact hr
/-- A cell of an argument, on both sides. -/
theorem cell_both {xs ys : List SV} {vs : List Value} (hx : VsRel hp0 ν0 xs vs) (hy : VsRel hp ν ys vs) {i j q : Nat} (h : cellOf xs i j = .sl q) : CRel hp ν (cellOf ys i j) (ν0 q) ∧ hp0 q ≠ .free := by
  unfold cellOf at h
  cases hxi : xs[i]? with
  | none => rw [hxi] at h; cases h
  | some x =>
    rw [hxi] at h
    have hi : i < vs.length := by rw [← vs_len hx]; exact (List.getElem?_eq_some_iff.1 hxi).1
    obtain ⟨x', v, h1, h2, h3⟩ := vs_get hx hi
    rw [hxi] at h1
    injection h1 with h1
    subst h1
    cases x with
    | any => cases h
    | tup _ => cases h
    | a g cs =>
      simp only [] at h
      have hcs : CsRel hp0 ν0 cs v.cells.toList := ARel.cells h3
      have hj : cs[j]? = some (.sl q) := by
        rw [List.getD_eq_getElem?_getD] at h
        cases hc : cs[j]? with
        | none => rw [hc] at h; cases h
        | some y => rw [hc] at h; have h : y = .sl q := h; rw [h]
      obtain ⟨u, hu, hur⟩ := hcs.get hj
      obtain ⟨hnf, hue, A, l, c, hus⟩ := hur
      have hone : u.oneCell' = true := by rw [hus]; rfl
      refine ⟨?_, hnf⟩
      rw [← hue]
      obtain ⟨y, v', h4, h5, h6⟩ := vs_get hy hi
      rw [h2] at h5
      injection h5 with h5
      subst h5
      unfold cellOf
      rw [h4]
      cases y with
      | any => exact hone
      | tup _ => exact hone
      | a g' cs' => exact cs_getD (ARel.cells h6) hu hone
theorem iA_ptr (ks : List CK) (t : TypeId) (x : CKs ks) (nm : Nat) (hp : Hp) : (iA (.ptr ks t) x nm hp).1 = one (.ptr nm 0) := rfl
theorem pair_args : ∀ (ks : List AK) (x : AKs ks) (sas : List SV) (vs : List Value) (nm : Nat) (hpc : Hp), mAs hp ks sas = some x → VsRel hp ν sas vs → VsRel hp0 ν0 (iAs ks x nm hpc).1 vs → PairP ν0 ν (ptrs ks sas) (ptrs ks (iAs ks x nm hpc).1)
  | [], x, sas, vs, nm, hpc, h, hv, hv0 => by
    match sas, vs, hv with
    | [], [], _ => trivial
    | _ :: _, _, _ => exact no_some (α := Unit) h
  | [k], x, sas, vs, nm, hpc, h, hv, hv0 => by
    match sas, vs, hv with
    | [sa], [v], hv =>
      have hh : mA hp k sa = some x := h
      have hq : (iAs [k] x nm hpc).1 = [(iA k x nm hpc).1] := rfl
      rw [hq] at hv0 ⊢
      exact pair_arg k x sa v nm hpc hh hv.1 hv0.1
    | [], _, _ => exact no_some (α := k.T) h
    | _ :: _ :: _, _, _ => exact no_some (α := k.T) h
    | [_], [], hv => exact hv.elim
    | [_], _ :: _ :: _, hv => exact hv.2.elim
  | k :: k' :: r, x, sas, vs, nm, hpc, h, hv, hv0 => by
    match sas, vs, hv with
    | sa :: sar, v :: vr, hv =>
      replace h : ((match mA hp k sa, mAs hp (k' :: r) sar with
        | some a, some b => some (a, b)
        | _, _ => none) : Option (k.T × AKs (k' :: r))) = some x := h
      split at h
      · rename_i a b ha hb
        have h : some (a, b) = some x := h
        injection h with h
        subst h
        have hq : (iAs (k :: k' :: r) (a, b) nm hpc).1 = (iA k a nm hpc).1 :: (iAs (k' :: r) b (iA k a nm hpc).2.1 (iA k a nm hpc).2.2).1 := rfl
        rw [hq] at hv0 ⊢
        rw [ptrs_cons k (k' :: r) sa sar, ptrs_cons k (k' :: r) (iA k a nm hpc).1]
        exact pair_app (pair_arg k a sa v nm hpc ha hv.1 hv0.1) (pair_args (k' :: r) b sar vr _ _ hb hv.2 hv0.2)
      · exact no_some (α := k.T × AKs (k' :: r)) h
    | [], _, _ => exact no_some (α := k.T × AKs (k' :: r)) h
    | _ :: _, [], hv => exact hv.elim
where
  pair_app {l m l' m' : List Nat} : PairP ν0 ν l m → PairP ν0 ν l' m' → PairP ν0 ν (l ++ l') (m ++ m') := by
    intro h k
    match l, m, h with
    | [], [], _ => exact k
    | _ :: _, _ :: _, h => exact ⟨h.1, pair_app h.2 k⟩
  pair_arg (k : AK) (x : k.T) (sa : SV) (v : Value) (nm : Nat) (hpc : Hp) (h : mA hp k sa = some x) (hv : VRel hp ν sa v) (hv0 : VRel hp0 ν0 (iA k x nm hpc).1 v) : PairP ν0 ν (ptrs [k] [sa]) (ptrs [k] [(iA k x nm hpc).1]) := by
    cases k with
    | c k =>
      obtain ⟨y, rfl, _⟩ := mA_c h
      exact trivial
    | agg ks =>
      obtain ⟨cs, rfl, _⟩ := mA_agg h
      exact trivial
    | ptr ks t =>
      obtain ⟨n, cs, rfl, _, _⟩ := mA_ptr h
      have hv0 : VRel hp0 ν0 (.a false [.ptr nm 0]) v := hv0
      show PairP ν0 ν [n] [nm]
      obtain ⟨_, g, hg, hvv⟩ := hv.ptr
      obtain ⟨_, g', hg', hvv'⟩ := hv0.ptr
      rw [hvv] at hvv'
      simp only [Value.pointer.injEq, Option.some.injEq, Addr.mk.injEq, and_true] at hvv'
      subst hvv'
      exact ⟨hg'.trans hg.symm, trivial⟩
    | w g ks =>
      obtain ⟨cs, rfl, hw⟩ := mA_w h
      have hp1 : ptrs [AK.w g ks] [SV.a g cs] = rowsW ks cs := by
        show rowsW ks cs ++ [] = _
        rw [List.append_nil]
      have hp2 : ptrs [AK.w g ks] [(iA (.w g ks) x nm hpc).1] = rowsW ks (iWs ks x nm hpc).1 := by
        show rowsW ks (iWs ks x nm hpc).1 ++ [] = _
        rw [List.append_nil]
      rw [hp1, hp2]
      have hv0 : VRel hp0 ν0 (.a g (iWs ks x nm hpc).1) v := hv0
      exact pair_rows ks x cs v.cells.toList nm hpc hw (ARel.cells hv) (ARel.cells hv0)
  pair_rows : ∀ (ks : List WK) (x : WKs ks) (cs : List SC) (vs : List Value) (nm : Nat) (hpc : Hp), mWs hp ks cs = some x → CsRel hp ν cs vs → CsRel hp0 ν0 (iWs ks x nm hpc).1 vs → PairP ν0 ν (rowsW ks cs) (rowsW ks (iWs ks x nm hpc).1)
    | [], x, cs, vs, nm, hpc, h, hv, hv0 => by
      match cs, vs, hv with
      | [], [], _ => trivial
      | _ :: _, _, _ => exact no_some (α := Unit) h
    | [k], x, cs, vs, nm, hpc, h, hv, hv0 => by
      match cs, vs, hv with
      | [c], [v], hv =>
        have hq : (iWs [k] x nm hpc).1 = [(iW nm hpc k x).1] := rfl
        rw [hq] at hv0 ⊢
        exact pair_row k x c v nm hpc h hv.1 hv0.1
      | [], _, _ => exact no_some (α := k.T) h
      | _ :: _ :: _, _, _ => exact no_some (α := k.T) h
      | [_], [], hv => exact hv.elim
    | k :: k' :: r, x, cs, vs, nm, hpc, h, hv, hv0 => by
      match cs, vs, hv with
      | c :: cr, v :: vr, hv =>
        rw [mWs_cons] at h
        split at h
        · rename_i a b ha hb
          have h : some (a, b) = some x := h
          injection h with h
          subst h
          have hq : (iWs (k :: k' :: r) (a, b) nm hpc).1 = (iW nm hpc k a).1 :: (iWs (k' :: r) b (iW nm hpc k a).2.1 (iW nm hpc k a).2.2).1 := rfl
          rw [hq] at hv0 ⊢
          rw [rowsW_cons k (k' :: r) c cr, rowsW_cons k (k' :: r) (iW nm hpc k a).1]
          exact pair_app (pair_row k a c v nm hpc ha hv.1 hv0.1) (pair_rows (k' :: r) b cr vr _ _ hb hv.2 hv0.2)
        · exact no_some (α := k.T × WKs (k' :: r)) h
      | [], _, _ => exact no_some (α := k.T × WKs (k' :: r)) h
      | _ :: _, [], hv => exact hv.elim
  pair_row (k : WK) (x : k.T) (c : SC) (v : Value) (nm : Nat) (hpc : Hp) (h : mW hp k c = some x) (hv : CRel hp ν c v) (hv0 : CRel hp0 ν0 (iW nm hpc k x).1 v) : PairP ν0 ν (rowsW [k] [c]) (rowsW [k] [(iW nm hpc k x).1]) := by
    cases k with
    | c k => cases c <;> exact trivial
    | row t e =>
      obtain ⟨n, rfl, _⟩ := mW_row h
      have hv0 : CRel hp0 ν0 (.sl nm) v := hv0
      show PairP ν0 ν [n] [nm]
      obtain ⟨_, h1, _⟩ := hv
      obtain ⟨_, h2, _⟩ := hv0
      exact ⟨h2.symm.trans h1, trivial⟩
theorem pair_zip {l m : List Nat} : PairP ν0 ν l m → ∀ p q, (p, q) ∈ l.zip m → ν0 q = ν p := by
  intro h p q hpq
  match l, m, h with
  | [], [], _ => simp at hpq
  | a :: l, b :: m, h =>
    simp only [List.zip_cons_cons, List.mem_cons, Prod.mk.injEq] at hpq
    rcases hpq with ⟨rfl, rfl⟩ | hpq
    · exact h.1
    · exact pair_zip h.2 p q hpq
theorem pair_len {l m : List Nat} (h : PairP ν0 ν l m) : ∀ p, p ∈ l → ∃ q, (p, q) ∈ l.zip m := by
  intro p hp
  match l, m, h with
  | a :: l, b :: m, h =>
    cases hp with
    | head => exact ⟨b, by simp⟩
    | tail _ hp =>
      obtain ⟨q, hq⟩ := pair_len h.2 p hp
      exact ⟨q, by simp [hq]⟩
theorem freeN_some {nm : Nat} : ∀ {n : Nat}, freeN hp nm n = true → ∀ k, nm ≤ k → k < nm + n → hp k = .free
  | 0, _, k, h1, h2 => by omega
  | n + 1, h, k, h1, h2 => by
    simp only [freeN] at h
    cases hq : hp (nm + n) with
    | free =>
      rw [hq] at h
      by_cases hk : k = nm + n
      · subst hk; exact hq
      · exact freeN_some h k h1 (by omega)
    | _ => rw [hq] at h; cases h
theorem row_wr : ∀ (ks : List WK) (x : WKs ks) (cs : List SC), mWs hp ks cs = some x → ∀ p, p ∈ rowsW ks cs → wrE (hp p)
  | [], x, cs, h, p, hp' => by cases cs <;> cases hp'
  | [k], x, cs, h, p, hp' => by
    match cs with
    | [c] => exact one_row k x c h p hp'
    | [] => exact no_some (α := k.T) h
    | _ :: _ :: _ => exact no_some (α := k.T) h
  | k :: k' :: r, x, cs, h, p, hp' => by
    match cs with
    | c :: cr =>
      rw [mWs_cons] at h
      split at h
      · rename_i a b ha hb
        rw [rowsW_cons] at hp'
        rcases List.mem_append.1 hp' with hp' | hp'
        · exact one_row k a c ha p hp'
        · exact row_wr (k' :: r) b cr hb p hp'
      · exact no_some (α := k.T × WKs (k' :: r)) h
    | [] => exact no_some (α := k.T × WKs (k' :: r)) h
where
  one_row (k : WK) (x : k.T) (c : SC) (h : mW hp k c = some x) (p : Nat) (hp' : p ∈ rowsW [k] [c]) : wrE (hp p) := by
    cases k with
    | c k => cases c <;> cases hp'
    | row t e =>
      obtain ⟨n, rfl, hr⟩ := mW_row h
      have hp' : p ∈ [n] := hp'
      rw [List.mem_singleton] at hp'
      subst hp'
      rw [hr]
      trivial
theorem ptr_box : ∀ (ks : List AK) (x : AKs ks) (sas : List SV), mAs hp ks sas = some x → ∀ p, p ∈ ptrs ks sas → wrE (hp p)
  | [], x, sas, h, p, hp' => by cases sas <;> cases hp'
  | [k], x, sas, h, p, hp' => by
    match sas with
    | [sa] => exact one_box k x sa h p hp'
    | [] => exact no_some (α := k.T) h
    | _ :: _ :: _ => exact no_some (α := k.T) h
  | k :: k' :: r, x, sas, h, p, hp' => by
    match sas with
    | sa :: sar =>
      replace h : ((match mA hp k sa, mAs hp (k' :: r) sar with
        | some a, some b => some (a, b)
        | _, _ => none) : Option (k.T × AKs (k' :: r))) = some x := h
      split at h
      · rename_i a b ha hb
        rw [ptrs_cons] at hp'
        rcases List.mem_append.1 hp' with hp' | hp'
        · exact one_box k a sa ha p hp'
        · exact ptr_box (k' :: r) b sar hb p hp'
      · exact no_some (α := k.T × AKs (k' :: r)) h
    | [] => exact no_some (α := k.T × AKs (k' :: r)) h
where
  one_box (k : AK) (x : k.T) (sa : SV) (h : mA hp k sa = some x) (p : Nat) (hp' : p ∈ ptrs [k] [sa]) : wrE (hp p) := by
    cases k with
    | c k =>
      obtain ⟨y, rfl, _⟩ := mA_c h
      cases hp'
    | agg ks =>
      obtain ⟨cs, rfl, _⟩ := mA_agg h
      cases hp'
    | ptr ks t =>
      obtain ⟨n, cs, rfl, hb, _⟩ := mA_ptr h
      have hp' : p ∈ [n] := hp'
      rw [List.mem_singleton] at hp'
      subst hp'
      rw [hb]
      trivial
    | w g ks =>
      obtain ⟨cs, rfl, hw⟩ := mA_w h
      have hp' : p ∈ rowsW ks cs ++ [] := hp'
      rw [List.append_nil] at hp'
      exact row_wr ks x cs hw p hp'
/-- Where no rows are handed all that is handed are boxes. -/
theorem ptr_box' : ∀ (ks : List AK) (x : AKs ks) (sas : List SV), noW ks = true → mAs hp ks sas = some x → ∀ p, p ∈ ptrs ks sas → boxE (hp p)
  | [], x, sas, _, h, p, hp' => by cases sas <;> cases hp'
  | [k], x, sas, hw, h, p, hp' => by
    match sas with
    | [sa] => exact one_box k x sa hw h p hp'
    | [] => exact no_some (α := k.T) h
    | _ :: _ :: _ => exact no_some (α := k.T) h
  | k :: k' :: r, x, sas, hw, h, p, hp' => by
    have hw1 : noW [k] = true ∧ noW (k' :: r) = true := by
      cases k with
      | w g ks => cases hw
      | _ => exact ⟨rfl, hw⟩
    match sas with
    | sa :: sar =>
      replace h : ((match mA hp k sa, mAs hp (k' :: r) sar with
        | some a, some b => some (a, b)
        | _, _ => none) : Option (k.T × AKs (k' :: r))) = some x := h
      split at h
      · rename_i a b ha hb
        rw [ptrs_cons] at hp'
        rcases List.mem_append.1 hp' with hp' | hp'
        · exact one_box k a sa hw1.1 ha p hp'
        · exact ptr_box' (k' :: r) b sar hw1.2 hb p hp'
      · exact no_some (α := k.T × AKs (k' :: r)) h
    | [] => exact no_some (α := k.T × AKs (k' :: r)) h
where
  one_box (k : AK) (x : k.T) (sa : SV) (hw : noW [k] = true) (h : mA hp k sa = some x) (p : Nat) (hp' : p ∈ ptrs [k] [sa]) : boxE (hp p) := by
    cases k with
    | c k =>
      obtain ⟨y, rfl, _⟩ := mA_c h
      cases hp'
    | agg ks =>
      obtain ⟨cs, rfl, _⟩ := mA_agg h
      cases hp'
    | ptr ks t =>
      obtain ⟨n, cs, rfl, hb, _⟩ := mA_ptr h
      have hp' : p ∈ [n] := hp'
      rw [List.mem_singleton] at hp'
      subst hp'
      rw [hb]
      trivial
    | w g ks => cases hw
end
theorem nmC_sl : ∀ (ks : List WK) (cs : List SC) (p : Nat), p ∈ rowsW ks cs → p ∈ nmC cs
  | [], cs, p, h => by cases cs <;> cases h
  | k :: r, [], p, h => by cases k <;> cases h
  | k :: r, c :: cr, p, h => by
    rw [rowsW_cons] at h
    rcases List.mem_append.1 h with h | h
    · cases k with
      | c k => cases c <;> cases h
      | row t e =>
        cases c with
        | sl n =>
          have h : p ∈ [n] := h
          rw [List.mem_singleton] at h
          subst h
          exact List.mem_cons_self
        | _ => cases h
    · have := nmC_sl r cr p h
      cases c <;> first | exact this | exact List.mem_cons_of_mem _ this
theorem ptr_slA : ∀ (ks : List AK) (sas : List SV) (p : Nat), p ∈ ptrs ks sas → p ∈ slA sas
  | [], sas, p, h => by cases sas <;> cases h
  | k :: r, [], p, h => by cases k <;> cases h
  | k :: r, sa :: sar, p, h => by
    rw [ptrs_cons] at h
    have hr := fun h => ptr_slA r sar p h
    rcases List.mem_append.1 h with h | h
    · cases k with
      | c k => cases sa <;> cases h
      | agg ks => cases sa <;> cases h
      | ptr ks t =>
        match sa, h with
        | .a false [.ptr n 0], h =>
          have h : p ∈ [n] := h
          rw [List.mem_singleton] at h
          subst h
          exact List.mem_cons_self
      | w g ks =>
        cases sa with
        | a g' cs =>
          have h : p ∈ rowsW ks cs ++ [] := h
          rw [List.append_nil] at h
          exact List.mem_append_left _ (nmC_sl ks cs p h)
        | any => cases h
        | tup _ => cases h
    · have := hr h
      cases sa <;> first | exact this | exact List.mem_append_right _ this
theorem mAs_len {hp : Hp} : ∀ (ks : List AK) (x : AKs ks) (sas : List SV), mAs hp ks sas = some x → sas.length = ks.length
  | [], x, sas, h => by
    cases sas with
    | nil => rfl
    | cons _ _ => exact no_some (α := Unit) h
  | [k], x, sas, h => by
    match sas with
    | [_] => rfl
    | [] => exact no_some (α := k.T) h
    | _ :: _ :: _ => exact no_some (α := k.T) h
  | k :: k' :: r, x, sas, h => by
    match sas with
    | sa :: sar =>
      replace h : ((match mA hp k sa, mAs hp (k' :: r) sar with
        | some a, some b => some (a, b)
        | _, _ => none) : Option (k.T × AKs (k' :: r))) = some x := h
      split at h
      · rename_i a b ha hb
        have := mAs_len (k' :: r) b sar hb
        simp at this ⊢
        omega
      · exact no_some (α := k.T × AKs (k' :: r)) h
    | [] => exact no_some (α := k.T × AKs (k' :: r)) h
theorem pair_sub {νF ν0 ν : Nat → Value} : ∀ {l m : List Nat}, PairP ν0 ν l m → (∀ q, q ∈ m → νF q = ν0 q) → PairP νF ν l m
  | [], [], _, _ => trivial
  | _ :: _, q :: _, h, hh => ⟨(hh q List.mem_cons_self).trans h.1, pair_sub h.2 fun q hq => hh q (List.mem_cons_of_mem _ hq)⟩
/-- What a begin has named is never free again. -/
theorem iC_keep (k : CK) (x : k.T) (nm : Nat) (hpc : Hp) (n : Nat) (h : hpc n ≠ .free) : (iC nm hpc k x).2.2 n ≠ .free := by
  cases k with
  | sl t =>
    show (upd hpc nm (.ro t x 0)) n ≠ .free
    by_cases hn : n = nm
    · subst hn; rw [upd_same]; simp
    · rw [upd_other _ _ hn]; exact h
  | nsl t =>
    show (upd (upd hpc nm (.nro t x 0)) (nm + 1) .gh) n ≠ .free
    by_cases hn : n = nm + 1
    · subst hn; rw [upd_same]; simp
    · rw [upd_other _ _ hn]
      by_cases hn : n = nm
      · subst hn; rw [upd_same]; simp
      · rw [upd_other _ _ hn]; exact h
  | _ => exact h
theorem iCs_keep : ∀ (ks : List CK) (x : CKs ks) (nm : Nat) (hpc : Hp) (n : Nat), hpc n ≠ .free → (iCs ks x nm hpc).2.2 n ≠ .free
  | [], _, _, _, _, h => h
  | [k], x, nm, hpc, n, h => iC_keep k x nm hpc n h
  | k :: k' :: r, x, nm, hpc, n, h => iCs_keep (k' :: r) x.2 (iC nm hpc k x.1).2.1 (iC nm hpc k x.1).2.2 n (iC_keep k x.1 nm hpc n h)
theorem iW_keep (k : WK) (x : k.T) (nm : Nat) (hpc : Hp) (n : Nat) (h : hpc n ≠ .free) : (iW nm hpc k x).2.2 n ≠ .free := by
  cases k with
  | c k => exact iC_keep k x nm hpc n h
  | row t e =>
    show (upd hpc nm (.row t x e)) n ≠ .free
    by_cases hn : n = nm
    · subst hn; rw [upd_same]; simp
    · rw [upd_other _ _ hn]; exact h
theorem iWs_keep : ∀ (ks : List WK) (x : WKs ks) (nm : Nat) (hpc : Hp) (n : Nat), hpc n ≠ .free → (iWs ks x nm hpc).2.2 n ≠ .free
  | [], _, _, _, _, h => h
  | [k], x, nm, hpc, n, h => iW_keep k x nm hpc n h
  | k :: k' :: r, x, nm, hpc, n, h => iWs_keep (k' :: r) x.2 (iW nm hpc k x.1).2.1 (iW nm hpc k x.1).2.2 n (iW_keep k x.1 nm hpc n h)
theorem iWs_name : ∀ (ks : List WK) (x : WKs ks) (nm : Nat) (hpc : Hp) (q : Nat), q ∈ rowsW ks (iWs ks x nm hpc).1 → (iWs ks x nm hpc).2.2 q ≠ .free
  | [], _, _, _, _, h => by cases h
  | [k], x, nm, hpc, q, h => one k x nm hpc q h
  | k :: k' :: r, x, nm, hpc, q, h => by
    have hq : (iWs (k :: k' :: r) x nm hpc).1 = (iW nm hpc k x.1).1 :: (iWs (k' :: r) x.2 (iW nm hpc k x.1).2.1 (iW nm hpc k x.1).2.2).1 := rfl
    rw [hq, rowsW_cons] at h
    show (iWs (k' :: r) x.2 (iW nm hpc k x.1).2.1 (iW nm hpc k x.1).2.2).2.2 q ≠ .free
    rcases List.mem_append.1 h with h | h
    · exact iWs_keep (k' :: r) x.2 _ _ q (one k x.1 nm hpc q h)
    · exact iWs_name (k' :: r) x.2 _ _ q h
where
  one (k : WK) (x : k.T) (nm : Nat) (hpc : Hp) (q : Nat) (h : q ∈ rowsW [k] [(iW nm hpc k x).1]) : (iW nm hpc k x).2.2 q ≠ .free := by
    cases k with
    | c k =>
      have : ∀ y : SC, rowsW [WK.c k] [y] = [] := fun y => by cases y <;> rfl
      rw [this] at h
      cases h
    | row t e =>
      have h : q ∈ [nm] := h
      rw [List.mem_singleton] at h
      subst h
      show (upd hpc q (.row t x e)) q ≠ .free
      rw [upd_same]; simp
theorem iA_keep (k : AK) (x : k.T) (nm : Nat) (hpc : Hp) (n : Nat) (h : hpc n ≠ .free) : (iA k x nm hpc).2.2 n ≠ .free := by
  cases k with
  | c k => exact iC_keep k x nm hpc n h
  | agg ks => exact iCs_keep ks x nm hpc n h
  | ptr ks t =>
    show (upd (iCs ks x (nm + 1) hpc).2.2 nm (.box (iCs ks x (nm + 1) hpc).1 t)) n ≠ .free
    by_cases hn : n = nm
    · subst hn; rw [upd_same]; simp
    · rw [upd_other _ _ hn]; exact iCs_keep ks x (nm + 1) hpc n h
  | w g ks => exact iWs_keep ks x nm hpc n h
theorem iAs_keep : ∀ (ks : List AK) (x : AKs ks) (nm : Nat) (hpc : Hp) (n : Nat), hpc n ≠ .free → (iAs ks x nm hpc).2.2 n ≠ .free
  | [], _, _, _, _, h => h
  | [k], x, nm, hpc, n, h => iA_keep k x nm hpc n h
  | k :: k' :: r, x, nm, hpc, n, h => iAs_keep (k' :: r) x.2 (iA k x.1 nm hpc).2.1 (iA k x.1 nm hpc).2.2 n (iA_keep k x.1 nm hpc n h)
theorem iA_name (k : AK) (x : k.T) (nm : Nat) (hpc : Hp) (q : Nat) (h : q ∈ ptrs [k] [(iA k x nm hpc).1]) : (iA k x nm hpc).2.2 q ≠ .free := by
  cases k with
  | c k => cases h
  | agg ks => cases h
  | ptr ks t =>
    have h : q ∈ [nm] := h
    rw [List.mem_singleton] at h
    subst h
    show (upd (iCs ks x (q + 1) hpc).2.2 q (.box (iCs ks x (q + 1) hpc).1 t)) q ≠ .free
    rw [upd_same]; simp
  | w g ks =>
    have h : q ∈ rowsW ks (iWs ks x nm hpc).1 ++ [] := h
    rw [List.append_nil] at h
    exact iWs_name ks x nm hpc q h
theorem ptr_name : ∀ (ks : List AK) (x : AKs ks) (nm : Nat) (hpc : Hp) (q : Nat), q ∈ ptrs ks (iAs ks x nm hpc).1 → (iAs ks x nm hpc).2.2 q ≠ .free
  | [], _, _, _, _, h => by cases h
  | [k], x, nm, hpc, q, h => iA_name k x nm hpc q h
  | k :: k' :: r, x, nm, hpc, q, h => by
    have hq : (iAs (k :: k' :: r) x nm hpc).1 = (iA k x.1 nm hpc).1 :: (iAs (k' :: r) x.2 (iA k x.1 nm hpc).2.1 (iA k x.1 nm hpc).2.2).1 := rfl
    rw [hq, ptrs_cons] at h
    show (iAs (k' :: r) x.2 (iA k x.1 nm hpc).2.1 (iA k x.1 nm hpc).2.2).2.2 q ≠ .free
    rcases List.mem_append.1 h with h | h
    · exact iAs_keep (k' :: r) x.2 _ _ q (iA_name k x.1 nm hpc q h)
    · exact ptr_name (k' :: r) x.2 _ _ q h
theorem ptr_name0 (ks : List AK) (x : AKs ks) (nm : Nat) (hpc : Hp) (q : Nat) (h : q ∈ ptrs ks (iAs ks x nm hpc).1) : (iAs ks x nm hpc).2.2 q ≠ .free := ptr_name ks x nm hpc q h
end Go.Sx
/- A function keeps its contract: the whole of it. -/
set_option linter.unusedVariables false
set_option linter.unusedSimpArgs false
namespace Go.Sx
/-- The results, as the machine hands them. -/
theorem res_run {P : Program} {A : Cx} {σ : St} {a : Act} {w : World} {ν : Nat → Value} (hH : HoldsAt A σ a w ν) : ∀ (rs : List ResultVar) (vs : List SV), resOf P σ rs = some vs →
    ∃ us, (rs.mapM (fun (r : ResultVar) => match r with
      | .tmp t => (pure (a.tmps.getD t undef) : Sem Value)
      | .cell ad t => do loadVar t (← asAddr (a.tmps.getD ad undef)))).run P w = .ok us w ∧ VsRel σ.hp ν vs us
  | [], vs, h => by
    simp only [resOf, Option.some.injEq] at h
    subst h
    exact ⟨[], by simp, trivial⟩
  | .tmp t :: r, vs, h => by
    simp only [resOf] at h
    split at h
    · rename_i vs' hr
      simp only [Option.some.injEq] at h
      subst h
      obtain ⟨us, h1, h2⟩ := res_run hH r vs' hr
      exact ⟨a.tmps.getD t undef :: us, by rw [List.mapM_cons]; simp only [Sem.run_bind, Sem.run_pure, Result.andThen_ok, h1], ⟨hH.tm t, h2⟩⟩
    · cases h
  | .cell ad t :: r, vs, h => by
    simp only [resOf] at h
    split at h
    · rename_i c v hp' vs' hl hr
      simp only [Option.some.injEq] at h
      subst h
      obtain ⟨us, h1, h2⟩ := res_run hH r vs' hr
      obtain ⟨p, u, hp1, hp2, hp3, _, _⟩ := load_core (w := w) hl (hH.tm ad) hH.mem
      refine ⟨u :: us, ?_, ⟨hp3, h2⟩⟩
      rw [List.mapM_cons]
      have : (do loadVar t (← asAddr (a.tmps.getD ad undef)) : Sem Value).run P w = .ok u w := by
        rw [hp1]; simpa [asAddr] using hp2
      simp only [Sem.run_bind] at this ⊢
      rw [this]
      simp only [Result.andThen_ok, h1, Sem.run_pure]
    · cases h
theorem results_run {P : Program} {A : Cx} {σ : St} {a : Act} {w : World} {ν : Nat → Value} (hH : HoldsAt A σ a w ν) {fn : Func} {vs : List SV} (h : resOf P σ fn.results.toList = some vs) :
    ∃ us, VsRel σ.hp ν vs us ∧ (results fn a.tmps).run P w = .ok (match us with | [u] => u | us => .tuple us.toArray) w := by
  obtain ⟨us, h1, h2⟩ := res_run hH fn.results.toList vs h
  refine ⟨us, h2, ?_⟩
  unfold results
  rw [Array.mapM_eq_mapM_toList]
  simp only [Sem.run_bind]
  have h3 : (List.toArray <$> fn.results.toList.mapM (fun (r : ResultVar) => match r with
      | .tmp t => (pure (a.tmps.getD t undef) : Sem Value)
      | .cell ad t => do loadVar t (← asAddr (a.tmps.getD ad undef)))).run P w = .ok us.toArray w := by
    rw [map_eq_pure_bind]
    simp only [Sem.run_bind, h1, Result.andThen_ok, Sem.run_pure]
  refine (congrArg (fun r => Result.andThen r _) h3).trans ?_
  simp only [Result.andThen_ok, Sem.run_pure]
  match us with
  | [] => rfl
  | [u] => rfl
  | _ :: _ :: _ => rfl
theorem con_sound {P : Program} {f : FuncId} {fn : Func} {c : Code} (con : Con) (F : Fix (OKs con.rk)) (hFP : F.P = P) (hf : P.funcs[f]? = some fn) (hname : (fn.name == "runtime.NumGoroutine") = false) (hb : fn.body = some c)
    (hN : F.N = fn.ntmps) (hak : con.ak.length ≤ fn.ntmps) (hG : ∀ f con', F.G f = some con' → CtrOK P f con') (hD : ∀ A : Cx, A.N = F.N → DrawOK F A)
    (hden : ∀ k x b, con.fn k x = some b → denF (F.C k) con (F.L k) c fn.results.toList x = some b)
    (hsites : ∀ x, ∀ A : Cx, A.hp0 = (st0 con.ak x).hp → A.N = F.N → ∀ p ∈ sites F c (fun k => kret (F.C k) con fn.results.toList (args0 con.ak x) (st0 con.ak x).hp), SiteOK F A p) : CtrOK P f con := by
  subst hFP
  refine ⟨⟨fn, hf, hname, by rw [hb]; rfl⟩, ?_⟩
  intro k x b hfn base G w0 w hp ν args vargs nm hm hargs hmA hap hfree
  have hap' := hap
  unfold apN at hap'
  rw [Bool.and_eq_true, Bool.and_eq_true, Bool.or_eq_true] at hap'
  obtain ⟨hnd, hrd, hwp⟩ := hap'
  obtain ⟨B, hNB⟩ := hm.nest
  -- the begin
  obtain ⟨νc, done, hB, hv0, _, _⟩ := Beg.args (G' := G0 ν (ptrs con.ak args)) (H := ptrs con.ak args) hm con.ak x args vargs.toList 0 (fun _ => .free) (fun _ => .nilFunc) [] _ _ _ (beg0 hNB _ _) hmA hargs
    (fun n hn hin => by
      have h1 := List.all_eq_true.1 hrd n hn
      rw [memN_iff.2 hin] at h1
      cases h1) (hwp.symm.imp id (fun h => ptr_box' con.ak x args h hmA)) hnd
    (fun p hp' => ⟨by simp, hp', fun g hg => ⟨p, hp', hg⟩⟩) (rfl : iAs con.ak x 0 (fun _ => .free) = ((iAs con.ak x 0 (fun _ => .free)).1, (iAs con.ak x 0 (fun _ => .free)).2.1, (iAs con.ak x 0 (fun _ => .free)).2.2))
  have hst : st0 con.ak x = ⟨tmOf (iAs con.ak x 0 (fun _ => .free)).1, (iAs con.ak x 0 (fun _ => .free)).2.2, (iAs con.ak x 0 (fun _ => .free)).2.1⟩ := rfl
  have hargs0 : args0 con.ak x = (iAs con.ak x 0 (fun _ => .free)).1 := rfl
  have hvl : vargs.size = con.ak.length := by
    have h1 := vs_len hargs
    have h2 := mAs_len con.ak x args hmA
    simp at h1
    omega
  let A : Cx := ⟨w.heap.size, G0 ν (ptrs con.ak args), w, (st0 con.ak x).hp, νc, F.N⟩
  have hH0 : HoldsAt A (st0 con.ak x) { tmps := vargs ++ Array.replicate (fn.ntmps - vargs.size) undef, defers := [] } w νc := by
    refine ⟨fun t => ?_, hB.mem, .refl _ _, rfl, ?_⟩
    · rw [hst]
      show VRel _ νc (tmOf (iAs con.ak x 0 (fun _ => .free)).1 t) _
      unfold tmOf
      by_cases ht : t < vargs.size
      · obtain ⟨y, v, h1, h2, h3⟩ := vs_get hv0 (i := t) (by simpa using ht)
        rw [List.getD_eq_getElem?_getD, h1]
        have h4 : (vargs ++ Array.replicate (fn.ntmps - vargs.size) undef).getD t undef = v := by
          rw [Array.getD_eq_getD_getElem?, Array.getElem?_append_left ht]
          have : vargs[t]? = some v := by simpa using h2
          rw [this]; rfl
        rw [h4]
        exact h3
      · have h1 : (iAs con.ak x 0 (fun _ => .free)).1[t]? = none := by
          rw [List.getElem?_eq_none]
          have := vs_len hv0
          simp at this
          omega
        rw [List.getD_eq_getElem?_getD, h1]
        have h4 : (vargs ++ Array.replicate (fn.ntmps - vargs.size) undef).getD t undef = undef := by
          rw [Array.getD_eq_getD_getElem?, Array.getElem?_append_right (by omega)]
          by_cases h5 : t - vargs.size < fn.ntmps - vargs.size
          · simp [h5]
          · rw [Array.getElem?_eq_none (by simp; omega)]; rfl
        rw [h4]
        exact undef_rel _ _
    · show (vargs ++ Array.replicate (fn.ntmps - vargs.size) undef).size = F.N
      rw [hN]
      simp
      omega
  -- the end
  have hend : ∀ (k' : Nat) (e : Exit) (σ : St) (a : Act) (w' : World), kret (F.C k') con fn.results.toList (args0 con.ak x) (st0 con.ak x).hp e σ = some b → Holds A σ a w' →
      bodyPost F.P fn (fun e w' => ∃ v ν', e = .returned v ∧ VRel (inOs args con.nres (ptrs con.ak args) con.rk b nm hp).2 ν' (resV con.nres (inOs args con.nres (ptrs con.ak args) con.rk b nm hp).1) v ∧
        Mem base G w0 w' (inOs args con.nres (ptrs con.ak args) con.rk b nm hp).2 ν' ∧ Ext hp ν (inOs args con.nres (ptrs con.ak args) con.rk b nm hp).2 ν') e a w' := by
    intro k' e σ a w' hk hH
    obtain ⟨νF, hH⟩ := hH
    have core : (match resOf F.P σ fn.results.toList with
        | some vs => cnd ((ptrs con.ak (args0 con.ak x)).all (fun p => isBox (σ.hp p)) && Nat.beq vs.length con.nres) (exOs (args0 con.ak x) (st0 con.ak x).hp (ptrs con.ak (args0 con.ak x)) vs (ptrs con.ak (args0 con.ak x)) con.rk σ.hp) none
        | none => none) = some b → a.defers = [] ∧ ∃ v, (results fn a.tmps).run F.P w' = .ok v w' ∧ ∃ v_1 ν', Ending.returned v = .returned v_1 ∧ VRel (inOs args con.nres (ptrs con.ak args) con.rk b nm hp).2 ν' (resV con.nres (inOs args con.nres (ptrs con.ak args) con.rk b nm hp).1) v_1 ∧
        Mem base G w0 w' (inOs args con.nres (ptrs con.ak args) con.rk b nm hp).2 ν' ∧ Ext hp ν (inOs args con.nres (ptrs con.ak args) con.rk b nm hp).2 ν' := by
      intro hcore
      refine ⟨hH.defers, ?_⟩
      split at hcore
      case h_2 => cases hcore
      rename_i vs hvs
      cases hc : ((ptrs con.ak (args0 con.ak x)).all (fun p => isBox (σ.hp p)) && Nat.beq vs.length con.nres) with
      | false => rw [hc] at hcore; exact no_some hcore
      | true =>
        rw [hc] at hcore
        have hex : exOs (args0 con.ak x) (st0 con.ak x).hp (ptrs con.ak (args0 con.ak x)) vs (ptrs con.ak (args0 con.ak x)) con.rk σ.hp = some b := hcore
        rw [Bool.and_eq_true] at hc
        have hlen := Nat.eq_of_beq_eq_true hc.2
        obtain ⟨us, hus, hrun⟩ := results_run (P := F.P) hH hvs
        obtain ⟨Bc, hNc⟩ := hH.mem.nest
        let N : Fin := ⟨base, G, w0, w, w', hp, ν, νF, νc, ptrs con.ak args, nm + OK.news con.rk, ptrs con.ak (args0 con.ak x), B, Bc⟩
        have hpairs := pair_args (hp := hp) (ν := ν) (hp0 := (iAs con.ak x 0 (fun _ => .free)).2.2) (ν0 := νc) con.ak x args vargs.toList 0 (fun _ => .free) hmA hargs hv0
        have hextF : ∀ q, (st0 con.ak x).hp q ≠ .free → νF q = νc q := fun q hq => (hH.ext.keep q hq).2
        have hbox0 : ∀ p0, p0 ∈ ptrs con.ak (args0 con.ak x) → ∃ p, p ∈ ptrs con.ak args ∧ True := fun _ _ => by
          cases hpp : ptrs con.ak args with
          | nil => rw [hpp] at hpairs; rename_i p0 hp0; cases hq : ptrs con.ak (iAs con.ak x 0 (fun _ => .free)).1 with
            | nil => rw [hargs0, hq] at hp0; cases hp0
            | cons _ _ => rw [hq] at hpairs; exact hpairs.elim
          | cons p _ => exact ⟨p, List.mem_cons_self, trivial⟩
        have hpairF : PairP νF ν (ptrs con.ak args) (ptrs con.ak (args0 con.ak x)) :=
          pair_sub hpairs (fun q hq => hextF q (ptr_name0 con.ak x 0 (fun _ => .free) q hq))
        have hNok : FinOK N := ⟨hm, ptr_box con.ak x args hmA, hpairF.mem, hNB⟩
        have hqs : ∀ q, q ∈ N.qs → q ∈ slA (args0 con.ak x) := fun q hq => ptr_slA con.ak (args0 con.ak x) q hq
        have hal : ∀ i j q, cellOf (args0 con.ak x) i j = .sl q → CRel hp ν (cellOf args i j) (νF q) := by
          intro i j q hq
          obtain ⟨h1, h2⟩ := cell_both (hp0 := (iAs con.ak x 0 (fun _ => .free)).2.2) hv0 hargs hq
          rw [hextF q h2]
          exact h1
        have hold : ∀ p p0, (p, p0) ∈ (ptrs con.ak args).zip (ptrs con.ak (args0 con.ak x)) → ∀ old0 t0 old t1, (st0 con.ak x).hp p0 = .box old0 t0 → hp p = .box old t1 → OldRel N old0 old := by
          intro p p0 hpp old0 t0 old t1 hb0 hb1 j q hj
          have he := pair_zip hpairs p p0 hpp
          have h1 := hB.mem.ent p0
          have hb0' : (iAs con.ak x 0 (fun _ => .free)).2.2 p0 = .box old0 t0 := hb0
          rw [hb0'] at h1
          obtain ⟨g, vs0, hg, hheap, hcs⟩ := h1
          have h2 := hm.ent p
          rw [hb1] at h2
          obtain ⟨g', vs1, hg', hheap', hcs'⟩ := h2
          rw [← he, hg] at hg'
          simp only [Value.pointer.injEq, Option.some.injEq, Addr.mk.injEq, and_true] at hg'
          subst hg'
          rw [hheap] at hheap'
          simp only [Option.some.injEq, Obj.cells.injEq, and_true] at hheap'
          obtain ⟨rfl, _⟩ := hheap'
          obtain ⟨u, hu, hur⟩ := hcs.get hj
          obtain ⟨hnf, hue, A', l', c', hus'⟩ := hur
          show CRel hp ν (old.getD j .any) (νF q)
          rw [hextF q hnf, ← hue]
          exact cs_getD hcs' hu (by rw [hus']; rfl)
        -- the caller's memory, but for the boxes that were handed
        have hfr : ∀ m, lvE (deadOf (ptrs con.ak args) hp m) → ∀ g, blk (ν m) = some g → w'.heap[g]? = w.heap[g]? := by
          intro m hlm g hg
          have hmr : m ∉ ptrs con.ak args := fun h => by rw [deadOf_in h] at hlm; exact hlm
          rw [deadOf_out hmr] at hlm
          have hlt := blk_lt (hm.ent m) hlm g hg
          refine hH.mem.fr.block g hlt ?_
          rintro ⟨p, hp', hpg⟩
          have hbp := ptr_box con.ak x args hmA p hp'
          exact hm.sep p m (fun e => by subst e; exact hmr hp') hbp hlm g hpg hg
        have hdead := deadOf_ext (ν := ν) (rem := ptrs con.ak args) (hp := hp) (fun p hp' hh => by
          have := ptr_box con.ak x args hmA p hp'
          rw [hh] at this
          exact this)
        have hlv : ∀ m, lvE (deadOf (ptrs con.ak args) hp m) → lvE (hp m) ∧ m ∉ ptrs con.ak args := by
          intro m hlm
          have hmr : m ∉ ptrs con.ak args := fun h => by rw [deadOf_in h] at hlm; exact hlm
          rw [deadOf_out hmr] at hlm
          exact ⟨hlm, hmr⟩
        have hBf : ∀ b, B b → w'.heap[b]? = w.heap[b]? := fun b hb => by
          refine hH.mem.fr.block b (hNB.lt b hb) ?_
          rintro ⟨p, hp', hpg⟩
          exact hNB.sep p (ptr_box con.ak x args hmA p hp') b hpg hb
        have hnstC : NestOK base G w' (deadOf (ptrs con.ak args) hp) ν N.B' := by
          refine ⟨fun n => ?_, fun n hwn g hg => ?_, fun b hb => ?_⟩
          · by_cases hn : n ∈ ptrs con.ak args
            · rw [deadOf_in hn]; trivial
            · have h2 := (hNB.rel n).frame (w' := w') (base' := base) (G' := G) (B' := N.B') (hp' := deadOf (ptrs con.ak args) hp) (ν' := ν) rfl (fun q => hdead.1.keep _ q) (fun hl g hg => hfr n (by rw [deadOf_out hn]; exact hl) g hg) (fun b hb => ⟨.inl hb, hBf b hb⟩) (fun _ _ q => q)
              rw [deadOf_out hn]
              exact h2
          · have h1 := hlv n hwn.lv
            have hwn' : wrE (hp n) := by rw [deadOf_out h1.2] at hwn; exact hwn
            rintro (h2 | ⟨h2, _⟩)
            · exact hNB.sep n hwn' g hg h2
            · have := blk_lt (hm.ent n) h1.1 g hg
              have h2 : w.heap.size ≤ g := h2
              omega
          · rcases hb with h1 | ⟨_, h1⟩
            · exact Nat.lt_of_lt_of_le (hNB.lt b h1) hH.mem.fr.size
            · exact hNc.lt b h1
        have hmemC : Mem base G w0 w' (deadOf (ptrs con.ak args) hp) ν := by
          refine ⟨fun n => ?_, fun n m hne hwn hlm g hg => ?_, fun n hwn g hg => ?_, ?_, ⟨_, hnstC⟩⟩
          · by_cases hn : n ∈ ptrs con.ak args
            · rw [deadOf_in hn]; trivial
            · have h1 := hm.ent n
              have h2 : EntRel base hp ν w' (hp n) (ν n) := h1.frame fun hl g hg => hfr n (by rw [deadOf_out hn]; exact hl) g hg
              rw [deadOf_out hn]
              exact h2.mono hdead.1
          · have h1 := hlv n hwn.lv
            have hwn' : wrE (hp n) := by rw [deadOf_out h1.2] at hwn; exact hwn
            exact hm.sep n m hne hwn' (hlv m hlm).1 g hg
          · have h1 := hlv n hwn.lv
            have hwn' : wrE (hp n) := by rw [deadOf_out h1.2] at hwn; exact hwn
            exact hm.mine n hwn' g hg
          · have h1 := hH.mem.fr
            refine ⟨h1.os.trans hm.fr.os, h1.tape.trans hm.fr.tape, h1.output.trans hm.fr.output, Nat.le_trans hm.fr.size h1.size, Nat.le_trans hm.fr.bs h1.size, fun k hk hg => ?_⟩
            refine (h1.block k (Nat.lt_of_lt_of_le hk hm.fr.bs) ?_).trans (hm.fr.block k hk hg)
            rintro ⟨p, hp', hpg⟩
            rcases hm.mine p (ptr_box con.ak x args hmA p hp') k hpg with h2 | h2
            · omega
            · exact hg h2
        have hE : EndI N (ptrs con.ak args) (ptrs con.ak (args0 con.ak x)) nm hp ν σ.hp := by
          refine ⟨hmemC, .refl _ _, fun _ _ => rfl, fun _ h => h, fun n h1 h2 => freeN_some hfree n h1 h2, hH.mem, fun q hq g hg hG m hlm hc => ?_, fun p hp' m hlm g hg hc => ?_, fun p hp' => .inr hp', fun p hp' => isBox_box (List.all_eq_true.1 hc.1 p hp'), hnstC, hNc⟩
          · have h1 := blk_lt (hm.ent m) (hlv m hlm).1 g hc
            rcases hH.mem.mine q hq g hg with h2 | h2
            · have h2 : w.heap.size ≤ g := h2
              omega
            · exact hG h2
          · have h1 := hlv m hlm
            exact hm.sep p m (fun e => by subst e; exact h1.2 hp') (ptr_box con.ak x args hmA p hp') h1.1 g hg hc
        obtain ⟨ν', h1, h2, h3⟩ := EndI.all hNok hpairF (fun _ h => h) hnd hqs hal hold con.rk b vs us nm hp ν σ.hp hE hus hex (Nat.le_refl _)
        rw [hlen] at h1 h2 h3
        refine ⟨_, hrun, _, ν', rfl, ?_, h1, h3⟩
        have hul : us.length = con.nres := by rw [← vs_len hus]; exact hlen
        have h1 : Mem base G w0 w' (inOs args con.nres (ptrs con.ak args) con.rk b nm hp).2 ν' := h1
        have h2 : TsRel (inOs args con.nres (ptrs con.ak args) con.rk b nm hp).2 ν' (inOs args con.nres (ptrs con.ak args) con.rk b nm hp).1 us := h2
        have h3 : Ext hp ν (inOs args con.nres (ptrs con.ak args) con.rk b nm hp).2 ν' := h3
        generalize (inOs args con.nres (ptrs con.ak args) con.rk b nm hp).2 = hpR at h1 h2 h3 ⊢
        generalize hrs : (inOs args con.nres (ptrs con.ak args) con.rk b nm hp).1 = rs at h2 ⊢
        have h2' : TsRel hpR ν' rs us := h2
        match us, rs, h2', hul with
        | [], [], _, hul => rw [← hul]; exact ⟨#[], rfl, trivial⟩
        | [u], [(g, cs)], h2', hul => rw [← hul]; exact h2'.1
        | u :: u2 :: us, r :: r2 :: rs, h2', hul =>
          rw [← hul]
          exact ⟨_, rfl, h2'⟩
    cases e with
    | normal => exact core hk
    | ret => exact core hk
    | exit _ => exact no_some hk
    | goto _ => exact no_some hk
    | panic _ => exact no_some hk
    | outgrown => exact no_some hk
  refine calls_of_wp hf hb ?_
  have hd := hden k x b hfn
  exact den_sound (F := F) (A := A) hG rfl (hD A rfl) c (fun k => kret (F.C k) con fn.results.toList (args0 con.ak x) (st0 con.ak x).hp) _ k (hsites x A rfl rfl)
    (fun k' _ e σ a w' h1 h2 => hend k' e σ a w' h1 h2) k (Nat.le_refl _) (st0 con.ak x) _ w hd ⟨νc, hH0⟩
end Go.Sx
/- One operation among others: what it looks at, what it changes. -/
set_option linter.unusedVariables false
set_option linter.unusedSimpArgs false
namespace Go.Sx
def isRo : Ent → Bool
  | .ro _ _ _ => true
  | .nro _ _ _ => true
  | .gh => true
  | _ => false
/-- Who looks here finds all as it was. -/
def Sees (av : Av) (hp hp' : Hp) : Prop := ∀ n, hp n ≠ .free → (rdOk av n = true ∨ isRo (hp n) = true) → hp' n = hp n
def Grows (hp hp' : Hp) : Prop := ∀ n, hp n ≠ .free → hp' n = hp n
theorem Grows.sees {hp hp' : Hp} (h : Grows hp hp') (av : Av) : Sees av hp hp' := fun n hn _ => h n hn
theorem grows_upd {hp : Hp} {q : Nat} (hq : hp q = .free) (E : Ent) : Grows hp (upd hp q E) := fun n hn => upd_other _ _ fun e => by subst e; exact hn hq
theorem rd_none (n : Nat) : rdOk none n = true := rfl
theorem sees_none {hp hp' : Hp} (h : Sees none hp hp') : Grows hp hp' := fun n hn => h n hn (.inl rfl)
section
variable {P : Program} {av : Av} {hp hp' hp1 : Hp}
theorem readL_sees {ty : Ty} {x : SC} {l : List ty.T} (h : readL av hp ty x = some l) (hs : Sees av hp hp') : readL av hp' ty x = some l := by
  cases x with
  | sl n =>
    have key : hp' n = hp n := by
      unfold readL at h
      cases hh : hp n with
      | row t l0 e =>
        refine (hs n (by rw [hh]; simp) (.inl ?_)).trans hh
        cases hr : rdOk av n with
        | true => rfl
        | false => simp [hh, hr] at h
      | ro t l0 e => exact (hs n (by rw [hh]; simp) (.inr (by rw [hh]; rfl))).trans hh
      | ex t l0 e =>
        refine (hs n (by rw [hh]; simp) (.inl ?_)).trans hh
        cases hr : rdOk av n with
        | true => rfl
        | false => simp [hh, hr] at h
      | _ => simp [hh] at h
    unfold readL at h ⊢
    simp only [key]
    exact h
  | pj n sz i off =>
    have key : hp' n = hp n := by
      unfold readL at h
      cases hh : hp n with
      | nro t l0 e => exact (hs n (by rw [hh]; simp) (.inr (by rw [hh]; rfl))).trans hh
      | _ => simp [hh] at h
    unfold readL at h ⊢
    simp only [key]
    exact h
  | _ => exact h
theorem lenA_sees {t : TypeId} {x : SV} {l : Int} (h : lenA P av hp t x = some l) (hs : Sees av hp hp') : lenA P av hp' t x = some l := by
  unfold lenA at h ⊢
  split at h
  · simp_all
  · simp_all
  · rename_i n
    split at h
    · rename_i el hu
      have key : hp' n = hp n := by
        cases hh : hp n with
        | row t l0 e =>
          refine (hs n (by rw [hh]; simp) (.inl ?_)).trans hh
          cases hr : rdOk av n with
          | true => rfl
          | false => simp [hh, hr] at h
        | ro t l0 e => exact (hs n (by rw [hh]; simp) (.inr (by rw [hh]; rfl))).trans hh
        | ex t l0 e =>
          refine (hs n (by rw [hh]; simp) (.inl ?_)).trans hh
          cases hr : rdOk av n with
          | true => rfl
          | false => simp [hh, hr] at h
        | nro t l0 e => exact (hs n (by rw [hh]; simp) (.inr (by rw [hh]; rfl))).trans hh
        | _ => simp [hh] at h
      simp only [hu, key]
      exact h
    · cases h
  · cases h
theorem loadA_sees {t : TypeId} {x : SV} {cs : List SB} {v : SV} (h : loadA P av t hp x = some (cs, v, hp1)) (hs : Sees av hp hp') : hp1 = hp ∧ loadA P av t hp' x = some (cs, v, hp') := by
  unfold loadA at h ⊢
  split at h
  · rename_i n off
    split at h
    · rename_i cs0 tt hh
      cases hr : rdOk av n with
      | false => simp [hr] at h
      | true =>
        have key := hs n (by rw [hh]; simp) (.inl hr)
        simp only [hr, cnd_true, key, hh] at h ⊢
        split at h <;> simp_all
    · cases h
  · rename_i n sz i off
    split at h
    · rename_i ty l e hh
      cases hr : rdOk av n with
      | false => simp [hr] at h
      | true =>
        have key := hs n (by rw [hh]; simp) (.inl hr)
        simp only [hr, key, hh] at h ⊢
        cases hb : (true && Nat.beq sz ty.size) with
        | false => rw [hb] at h; cases h
        | true =>
          rw [hb] at h
          simp only [cnd_true] at h ⊢
          split at h <;> simp_all
    · rename_i ty l e hh
      have key := hs n (by rw [hh]; simp) (.inr (by rw [hh]; rfl))
      simp only [key, hh] at h ⊢
      cases hb : (Nat.beq sz ty.size) with
      | false => rw [hb] at h; cases h
      | true =>
        rw [hb] at h
        simp only [cnd_true] at h ⊢
        split at h <;> simp_all
    · rename_i ty l e hh
      cases hr : rdOk av n with
      | false => simp [hr] at h
      | true =>
        have key := hs n (by rw [hh]; simp) (.inl hr)
        simp only [hr, key, hh] at h ⊢
        cases hb : (true && Nat.beq sz ty.size) with
        | false => rw [hb] at h; cases h
        | true =>
          rw [hb] at h
          simp only [cnd_true] at h ⊢
          split at h <;> simp_all
    · rename_i ty l e hh
      have key := hs n (by rw [hh]; simp) (.inr (by rw [hh]; rfl))
      simp only [key, hh] at h ⊢
      cases hb : (Nat.beq sz ty.size) with
      | false => rw [hb] at h; cases h
      | true =>
        rw [hb] at h
        simp only [cnd_true] at h ⊢
        split at h <;> simp_all
    · cases h
  · cases h
theorem opA_cls0 {op : Op} {e : Operand → SV} {nm : Nat} {cs : List SB} {v : SV} (hc : cls P op = 0) (h : opA P av op e nm hp = some (cs, v, hp1)) : hp1 = hp ∧ ∀ av' nm' hp', opA P av' op e nm' hp' = some (cs, v, hp') := by
  cases op
  case move x => simp only [opA, Option.some.injEq, Prod.mk.injEq] at h ⊢; obtain ⟨rfl, rfl, rfl⟩ := h; simp
  case assign x => simp only [opA, Option.some.injEq, Prod.mk.injEq] at h ⊢; obtain ⟨rfl, rfl, rfl⟩ := h; simp
  case pick => simp [opA] at h
  case build t ps =>
    simp only [opA] at h ⊢
    split at h
    · split at h
      · split at h
        · simp_all
        · cases h
      · cases h
    · cases h
  case nilCheck x =>
    simp only [opA] at h ⊢
    split at h
    · simp_all
    · cases h
  case binOp op t x y _ =>
    simp only [opA] at h ⊢
    split at h
    · simp_all
    · split at h
      · simp_all
      · simp_all
      · cases h
  case unOp =>
    simp only [opA] at h ⊢
    split at h
    · simp_all
    · cases h
  case extract x i =>
    simp only [opA] at h ⊢
    split at h
    · split at h
      · simp_all
      · cases h
    · cases h
  case field t x f =>
    simp only [opA] at h ⊢
    split at h
    · split at h
      · simp_all
      · cases h
    · cases h
  case fieldAddr t x f =>
    simp only [opA] at h ⊢
    split at h
    · split at h
      · split at h
        · simp_all
        · simp_all
        · cases h
      · cases h
    · cases h
  case index t x i =>
    simp only [opA] at h ⊢
    split at h
    · simp_all
    · cases h
  case slice t x lo hi mx =>
    cases mx with
    | some m => simp [opA] at h
    | none =>
      have hu : P.underlying t = some .string := by
        simp only [cls] at hc
        split at hc
        · assumption
        · cases hc
      simp only [opA, sliceA] at h ⊢
      split at h
      · split at h
        · simp_all
        · split at h
          · rename_i he2
            simp [sliceOf, hu] at he2
          · cases h
        · cases h
      · cases h
  case call c =>
    simp only [cls] at hc
    split at hc <;> simp_all
  case convert s d x =>
    simp only [cls] at hc
    split at hc <;> cases hc
  all_goals first | (simp [cls] at hc; done) | (simp [opA] at h; done)
end
end Go.Sx
/- One operation among others: who reads, who makes, who writes. -/
set_option linter.unusedVariables false
set_option linter.unusedSimpArgs false
namespace Go.Sx
theorem upd_comm {α : Type} {f : Nat → α} {a b : Nat} (h : a ≠ b) (x y : α) : upd (upd f a x) b y = upd (upd f b y) a x := by
  funext k
  by_cases h1 : k = a
  · subst h1; rw [upd_other _ _ h, upd_same, upd_same]
  · by_cases h2 : k = b
    · subst h2; rw [upd_same, upd_other _ _ h1, upd_same]
    · rw [upd_other _ _ h2, upd_other _ _ h1, upd_other _ _ h1, upd_other _ _ h2]
section
variable {P : Program} {av : Av} {hp hp' hp1 : Hp}
theorem opA_cls1 {op : Op} {e : Operand → SV} {nm : Nat} {cs : List SB} {v : SV} (hc : cls P op = 1) (h : opA P av op e nm hp = some (cs, v, hp1)) : hp1 = hp ∧ ∀ nm' hp', Sees av hp hp' → opA P av op e nm' hp' = some (cs, v, hp') := by
  cases op
  case load t x =>
    simp only [opA] at h ⊢
    exact ⟨(loadA_sees h (fun _ _ _ => rfl)).1, fun nm' hp' hs => (loadA_sees h hs).2⟩
  case indexAddr t x i =>
    simp only [opA] at h ⊢
    split at h
    · rename_i el n k j hu hx hi
      split at h
      · rename_i m hm
        split at h
        · rename_i ty l e' hh
          cases hr : rdOk av n with
          | false => simp [hr] at h
          | true =>
            simp only [hr, Bool.true_and] at h
            cases hb : Nat.beq m ty.size with
            | false => rw [hb] at h; cases h
            | true =>
              rw [hb] at h
              simp only [cnd_true, Option.some.injEq, Prod.mk.injEq] at h
              obtain ⟨rfl, rfl, rfl⟩ := h
              refine ⟨rfl, fun nm' hp' hs => ?_⟩
              have key := hs n (by rw [hh]; simp) (.inl hr)
              simp [hu, hx, hi, hm, key, hh, hr, hb]
        · rename_i ty l e' hh
          cases hb : Nat.beq m ty.size with
          | false => rw [hb] at h; cases h
          | true =>
            rw [hb] at h
            simp only [cnd_true, Option.some.injEq, Prod.mk.injEq] at h
            obtain ⟨rfl, rfl, rfl⟩ := h
            refine ⟨rfl, fun nm' hp' hs => ?_⟩
            have key := hs n (by rw [hh]; simp) (.inr (by rw [hh]; rfl))
            simp [hu, hx, hi, hm, key, hh, hb]
        · rename_i ty l e' hh
          cases hr : rdOk av n with
          | false => simp [hr] at h
          | true =>
            simp only [hr, Bool.true_and] at h
            cases hb : Nat.beq m ty.size with
            | false => rw [hb] at h; cases h
            | true =>
              rw [hb] at h
              simp only [cnd_true, Option.some.injEq, Prod.mk.injEq] at h
              obtain ⟨rfl, rfl, rfl⟩ := h
              refine ⟨rfl, fun nm' hp' hs => ?_⟩
              have key := hs n (by rw [hh]; simp) (.inl hr)
              simp [hu, hx, hi, hm, key, hh, hr, hb]
        · rename_i ty l e' hh
          cases hb : Nat.beq m ty.size with
          | false => rw [hb] at h; cases h
          | true =>
            rw [hb] at h
            simp only [cnd_true, Option.some.injEq, Prod.mk.injEq] at h
            obtain ⟨rfl, rfl, rfl⟩ := h
            refine ⟨rfl, fun nm' hp' hs => ?_⟩
            have key := hs n (by rw [hh]; simp) (.inr (by rw [hh]; rfl))
            simp [hu, hx, hi, hm, key, hh, hb]
        · rename_i ty l e' hh
          cases hr : rdOk av n with
          | false => simp [hr] at h
          | true =>
            simp only [hr, Bool.true_and] at h
            cases hb : Nat.beq m ty.size with
            | false => rw [hb] at h; cases h
            | true =>
              rw [hb] at h
              simp only [cnd_true, Option.some.injEq, Prod.mk.injEq] at h
              obtain ⟨rfl, rfl, rfl⟩ := h
              refine ⟨rfl, fun nm' hp' hs => ?_⟩
              have key := hs n (by rw [hh]; simp) (.inl hr)
              simp [hu, hx, hi, hm, key, hh, hr, hb]
        · cases h
      · cases h
    · cases h
  case convert s d x =>
    simp only [opA] at h ⊢
    split at h
    · simp_all
    · split at h
      · split at h
        · rename_i l hl
          simp only [Option.some.injEq, Prod.mk.injEq] at h
          obtain ⟨rfl, rfl, rfl⟩ := h
          refine ⟨rfl, fun nm' hp' hs => ?_⟩
          have key := readL_sees hl hs
          simp_all
        · cases h
      · cases h
    · rename_i el s' hs2 hd hx
      simp only [cls, hd] at hc
      cases hc
    · cases h
  case call c =>
    obtain ⟨callee, as, ts⟩ := c
    cases callee with
    | builtin b =>
      simp only [opA, builtinA] at h ⊢
      split at h
      · split at h
        · split at h
          · rename_i n hn
            simp only [Option.some.injEq, Prod.mk.injEq] at h
            obtain ⟨rfl, rfl, rfl⟩ := h
            refine ⟨rfl, fun nm' hp' hs => ?_⟩
            have key := lenA_sees hn hs
            simp_all
          · cases h
        · cases h
      · split at h
        · simp_all
        · cases h
      · split at h
        · simp_all
        · cases h
      · simp [cls] at hc
      · cases h
    | _ => simp [opA] at h
  case slice t x lo hi mx =>
    simp only [cls] at hc
    split at hc <;> cases hc
  all_goals first | (simp [cls] at hc; done) | (simp [opA] at h; done)
theorem mk_inv' {nm : Nat} {v v' : SV} {E : Ent} {cs : List SB} (h : mk hp nm v E = some (cs, v', hp1)) : hp nm = .free ∧ cs = [] ∧ v' = v ∧ hp1 = upd hp nm E := by
  unfold mk at h
  split at h
  · simp only [Option.some.injEq, Prod.mk.injEq] at h
    obtain ⟨rfl, rfl, rfl⟩ := h
    exact ⟨by assumption, rfl, rfl, rfl⟩
  · cases h
theorem mk_free {nm : Nat} {v : SV} {E : Ent} (h : hp nm = .free) : mk hp nm v E = some ([], v, upd hp nm E) := by
  unfold mk
  rw [h]
theorem opA_cls2 {op : Op} {e : Operand → SV} {nm : Nat} {cs : List SB} {v : SV} (hc : cls P op = 2) (h : opA P av op e nm hp = some (cs, v, hp1)) :
    hp nm = .free ∧ ∃ E, wrE E ∧ hp1 = upd hp nm E ∧ ∀ av' hp', hp' nm = .free → opA P av' op e nm hp' = some (cs, v, upd hp' nm E) := by
  cases op
  case convert s d x =>
    simp only [opA] at h ⊢
    split at h
    · rename_i k0 k k1 n hs hd hx
      simp only [cls, hd] at hc
      cases hc
    · rename_i el x' hs hd hx
      simp only [cls, hd] at hc
      cases hc
    · rename_i el s' hs hd hx
      split at h
      · rename_i hel hfr
        simp only [Option.some.injEq, Prod.mk.injEq] at h
        obtain ⟨rfl, rfl, rfl⟩ := h
        refine ⟨hfr, _, ?_, rfl, fun av' hp' hf => by simp [hs, hd, hx, hel, hf]⟩
        exact trivial
      · cases h
    · cases h
  case alloc t =>
    simp only [opA] at h ⊢
    split at h
    · obtain ⟨h1, rfl, rfl, rfl⟩ := mk_inv' h
      refine ⟨h1, _, ?_, rfl, fun av' hp' hf => by simp [*, mk_free hf]⟩
      exact trivial
    · cases h
  case box t x =>
    simp only [opA] at h ⊢
    split at h
    · obtain ⟨h1, rfl, rfl, rfl⟩ := mk_inv' h
      refine ⟨h1, _, ?_, rfl, fun av' hp' hf => by simp [*, mk_free hf]⟩
      exact trivial
    · cases h
  case buildSlice t len ps =>
    simp only [opA] at h ⊢
    split at h
    · rename_i el hel
      split at h
      · rename_i ty hty
        split at h
        · rename_i xs hxs
          split at h
          · rename_i z hz
            cases hb : (Nat.beq xs.length len && Nat.ble (len * ty.size) 16777216) with
            | false => rw [hb] at h; cases h
            | true =>
              rw [hb] at h
              simp only [cnd_true] at h
              obtain ⟨h1, rfl, rfl, rfl⟩ := mk_inv' h
              refine ⟨h1, _, ?_, rfl, fun av' hp' hf => by simp only [hel, hty, hxs, hz, hb, cnd_true, mk_free hf]⟩
              exact trivial
          · cases h
        · cases h
      · cases h
    · cases h
  case makeSlice t n c =>
    simp only [opA] at h ⊢
    split at h
    · rename_i k1 a k2 b hn hcc
      split at h
      · rename_i el hel
        split at h
        · rename_i ty by_ hty hby
          split at h
          · rename_i hf
            split at h
            · rename_i g z hz
              split at h
              · rename_i hzz
                cases hb : Nat.blt 0 by_ with
                | false => rw [hb] at h; cases h
                | true =>
                  rw [hb] at h
                  simp only [cnd_true, Option.some.injEq, Prod.mk.injEq] at h
                  obtain ⟨rfl, rfl, rfl⟩ := h
                  refine ⟨hf, _, ?_, rfl, fun av' hp' hf => by simp only [hn, hcc, hel, hty, hby, hf, hz, hzz, hb, cnd_true]⟩
                  exact trivial
              · cases h
            · cases h
          · cases h
        · rename_i by_ hty hby
          split at h
          · rename_i hf
            split at h
            · rename_i nt hnt
              split at h
              · rename_i g z hz
                split at h
                · rename_i hzz
                  cases hb : Nat.blt 0 by_ with
                  | false => rw [hb] at h; cases h
                  | true =>
                    rw [hb] at h
                    simp only [cnd_true, Option.some.injEq, Prod.mk.injEq] at h
                    obtain ⟨rfl, rfl, rfl⟩ := h
                    refine ⟨hf, _, ?_, rfl, fun av' hp' hf => by simp only [hn, hcc, hel, hty, hby, hf, hnt, hz, hzz, hb, cnd_true]⟩
                    exact trivial
                · cases h
              · cases h
            · cases h
          · cases h
        · cases h
      · cases h
    · cases h
  case slice t x lo hi mx =>
    simp only [cls] at hc
    split at hc <;> cases hc
  case call c =>
    simp only [cls] at hc
    split at hc <;> simp_all
  all_goals first | (simp [cls] at hc; done) | (simp [opA] at h; done)
end
end Go.Sx
/- One operation among others: who writes. -/
set_option linter.unusedVariables false
set_option linter.unusedSimpArgs false
namespace Go.Sx
/-- What a writer keeps. -/
structure Keeps (av : Av) (hp hp1 : Hp) : Prop where
  old : ∀ n, hp n ≠ .free → (wrOk av n = false ∨ isRo (hp n) = true) → hp1 n = hp n
  lives : ∀ n, hp n ≠ .free → hp1 n ≠ .free
theorem Keeps.refl (av : Av) (hp : Hp) : Keeps av hp hp := ⟨fun _ _ _ => rfl, fun _ h => h⟩
theorem Keeps.fresh {av : Av} {hp : Hp} {nm : Nat} {E : Ent} (h : hp nm = .free) : Keeps av hp (upd hp nm E) :=
  ⟨fun n hn _ => upd_other _ _ fun e => by subst e; exact hn h, fun n hn => by rw [upd_other _ _ fun e => by subst e; exact hn h]; exact hn⟩
theorem Keeps.put {av : Av} {hp : Hp} {n : Nat} {E : Ent} (hw : wrOk av n = true) (hro : isRo (hp n) = false) (hE : E ≠ .free) : Keeps av hp (upd hp n E) := by
  refine ⟨fun m hm hh => upd_other _ _ fun e => ?_, fun m hm => ?_⟩
  · subst e
    rcases hh with hh | hh
    · rw [hw] at hh; cases hh
    · rw [hro] at hh; cases hh
  · by_cases e : m = n
    · subst e; rw [upd_same]; exact hE
    · rw [upd_other _ _ e]; exact hm
theorem Keeps.trans {av : Av} {hp hp1 hp2 : Hp} (h : Keeps av hp hp1) (k : Keeps av hp1 hp2) : Keeps av hp hp2 :=
  ⟨fun n hn hh => by
    have h1 := h.old n hn hh
    rw [k.old n (h.lives n hn) (by rw [h1]; exact hh), h1], fun n hn => k.lives n (h.lives n hn)⟩
theorem ne_free {hp : Hp} {n q : Nat} (hn : hp n ≠ .free) (hq : hp q = .free) : n ≠ q := fun e => by subst e; exact hn hq
section
variable {P : Program} {av : Av} {hp hp' hp1 : Hp}
/-- What an element takes of rows of one's own is theirs from then on. -/
theorem NT_of_wr : ∀ (nt : NT) {hp hp1 : Hp} {xs r : List SC} {x : nt.T}, NT.of (wrOk av) nt hp xs = some (x, r, hp1) →
    Keeps av hp hp1 ∧ (∀ m, isRo (hp m) = false → (∀ ty l e, hp m ≠ .row ty l e) → hp1 m = hp m) ∧ ∀ q E, hp q = .free → NT.of (wrOk av) nt (upd hp q E) xs = some (x, r, upd hp1 q E)
  | .f t, hp, hp1, xs, r, x, h => by
    simp only [NT.of] at h ⊢
    split at h
    · rename_i x' r' h1
      simp only [Option.some.injEq, Prod.mk.injEq] at h
      obtain ⟨rfl, rfl, rfl⟩ := h
      exact ⟨.refl _ _, fun _ _ _ => rfl, fun q E hq => rfl⟩
    · cases h
  | .sl t, hp, hp1, xs, r, x, h => by
    match xs, h with
    | .nils :: xs, h =>
      simp only [NT.of, Option.some.injEq, Prod.mk.injEq] at h
      obtain ⟨rfl, rfl, rfl⟩ := h
      exact ⟨.refl _ _, fun _ _ _ => rfl, fun q E hq => rfl⟩
    | .sl n :: xs, h =>
      simp only [NT.of] at h ⊢
      split at h
      · rename_i t' l e hn
        split at h
        · rename_i ht hdec
          subst ht
          cases hk : wrOk av n with
          | false => rw [hk] at h; cases h
          | true =>
            rw [hk] at h
            simp only [cnd_true, Option.some.injEq, Prod.mk.injEq] at h
            obtain ⟨rfl, rfl, rfl⟩ := h
            refine ⟨.put hk (by rw [hn]; rfl) (by simp), fun m _ hm => upd_other _ _ fun e => by subst e; exact hm _ _ _ hn, fun q E hq => ?_⟩
            have hne : n ≠ q := ne_free (by rw [hn]; simp) hq
            simp only [upd_other _ _ hne, hn, hdec, cnd_true]
            rw [upd_comm hne]
        · cases h
      · cases h
    | [], h => simp [NT.of] at h
    | .any :: _, h | .bool _ :: _, h | .int _ _ :: _, h | .str _ :: _, h | .ptr _ _ :: _, h | .nilp :: _, h | .ep _ _ _ _ :: _, h | .pj _ _ _ _ :: _, h => simp [NT.of] at h
  | .pair a b, hp, hp1, xs, r, x, h => by
    simp only [NT.of] at h ⊢
    split at h
    · rename_i y r1 hp2 h1
      split at h
      · rename_i z r2 hp3 h2
        simp only [Option.some.injEq, Prod.mk.injEq] at h
        obtain ⟨rfl, rfl, rfl⟩ := h
        obtain ⟨k1, n1, e1⟩ := NT_of_wr a h1
        obtain ⟨k2, n2, e2⟩ := NT_of_wr b h2
        refine ⟨k1.trans k2, fun m hm hr => ?_, fun q E hq => ?_⟩
        · have h3 := n1 m hm hr
          rw [n2 m (by rw [h3]; exact hm) (by rw [h3]; exact hr), h3]
        · have h3 : hp2 q = .free := by rw [n1 q (by rw [hq]; rfl) (by rw [hq]; simp), hq]
          simp only [e1 q E hq, e2 q E h3]
      · cases h
    · cases h
theorem storeA_wr {t : TypeId} {x y : SV} {cs : List SB} {v : SV} (h : storeA P av t hp x y = some (cs, v, hp1)) :
    Keeps av hp hp1 ∧ ∀ q E, hp q = .free → storeA P av t (upd hp q E) x y = some (cs, v, upd hp1 q E) := by
  unfold storeA at h ⊢
  split at h
  · rename_i n off g vs
    split at h
    · rename_i cs0 tt m hh hs
      cases hb : (wrOk av n && (Nat.beq vs.length m && Nat.ble (off + m) cs0.length)) with
      | false => rw [hb] at h; cases h
      | true =>
        rw [hb] at h
        simp only [cnd_true, Option.some.injEq, Prod.mk.injEq] at h
        obtain ⟨rfl, rfl, rfl⟩ := h
        have hw := (Bool.and_eq_true_iff.1 hb).1
        refine ⟨.put hw (by rw [hh]; rfl) (by simp), fun q E hq => ?_⟩
        have hne : n ≠ q := ne_free (by rw [hh]; simp) hq
        simp only [upd_other _ _ hne, hh, hs, hb, cnd_true]
        rw [upd_comm hne]
    · cases h
  · rename_i n sz i off g vs
    split at h
    · rename_i ty l e m hh hs
      cases hb : (wrOk av n && Nat.beq sz ty.size && (Nat.beq vs.length m && Nat.ble (off + m) ty.size)) with
      | false => rw [hb] at h; cases h
      | true =>
        rw [hb] at h
        simp only [cnd_true] at h
        split at h
        · rename_i x hx
          simp only [Option.some.injEq, Prod.mk.injEq] at h
          obtain ⟨rfl, rfl, rfl⟩ := h
          have hw := (Bool.and_eq_true_iff.1 (Bool.and_eq_true_iff.1 hb).1).1
          refine ⟨.put hw (by rw [hh]; rfl) (by simp), fun q E hq => ?_⟩
          have hne : n ≠ q := ne_free (by rw [hh]; simp) hq
          simp only [upd_other _ _ hne, hh, hs, hb, cnd_true, hx]
          rw [upd_comm hne]
        · cases h
    · rename_i ty l e m hh hs
      split at h
      · rename_i l x
        cases hb : (wrOk av n && (Nat.beq sz 1 && (Nat.beq m 1 && Nat.beq off 0))) with
        | false => rw [hb] at h; cases h
        | true =>
          rw [hb] at h
          simp only [cnd_true, Option.some.injEq, Prod.mk.injEq] at h
          obtain ⟨rfl, rfl, rfl⟩ := h
          have hw := (Bool.and_eq_true_iff.1 hb).1
          refine ⟨.put hw (by rw [hh]; rfl) (by simp), fun q E hq => ?_⟩
          have hne : n ≠ q := ne_free (by rw [hh]; simp) hq
          simp only [upd_other _ _ hne, hh, hs, hb, cnd_true]
          rw [upd_comm hne]
      · cases h
    · rename_i nt l e m hh hs
      cases hb : (wrOk av n && (Nat.beq sz nt.size && (Nat.beq vs.length m && (Nat.beq m nt.size && Nat.beq off 0)))) with
      | false => rw [hb] at h; cases h
      | true =>
        rw [hb] at h
        simp only [cnd_true] at h
        split at h
        · rename_i x hp2 hx
          simp only [Option.some.injEq, Prod.mk.injEq] at h
          obtain ⟨rfl, rfl, rfl⟩ := h
          have hw := (Bool.and_eq_true_iff.1 hb).1
          obtain ⟨k1, n1, e1⟩ := NT_of_wr nt hx
          have h2 : hp2 n = hp n := n1 n (by rw [hh]; rfl) (by rw [hh]; simp)
          refine ⟨k1.trans (.put hw (by rw [h2, hh]; rfl) (by simp)), fun q E hq => ?_⟩
          have hne : n ≠ q := ne_free (by rw [hh]; simp) hq
          simp only [upd_other _ _ hne, hh, hs, hb, cnd_true, e1 q E hq]
          rw [upd_comm hne]
        · cases h
    · cases h
  · cases h
theorem sliceA_wr {t : TypeId} {nm : Nat} {x : SV} {lo hi : Option SV} {cs : List SB} {v : SV} (h : sliceA P av t nm hp x lo hi = some (cs, v, hp1)) :
    Keeps av hp hp1 ∧ ∀ q E, hp q = .free → q ≠ nm → sliceA P av t nm (upd hp q E) x lo hi = some (cs, v, upd hp1 q E) := by
  unfold sliceA at h ⊢
  split at h
  · rename_i lo' hi' hlo hhi
    split at h
    · split at h
      · simp only [Option.some.injEq, Prod.mk.injEq] at h
        obtain ⟨rfl, rfl, rfl⟩ := h
        refine ⟨.refl _ _, fun q E hq hne => ?_⟩
        simp_all
      · cases h
    · rename_i n
      split at h
      · rename_i e' hf he'
        split at h
        · rename_i ty l e hh
          split at h
          · rename_i m hm
            cases hb : Nat.beq m ty.size with
            | false => rw [hb] at h; cases h
            | true =>
              rw [hb] at h
              simp only [cnd_true, Option.some.injEq, Prod.mk.injEq] at h
              obtain ⟨rfl, rfl, rfl⟩ := h
              refine ⟨.fresh hf, fun q E hq hne => ?_⟩
              have hn : n ≠ q := ne_free (by rw [hh]; simp) hq
              simp only [upd_other _ _ hn, upd_other _ _ (Ne.symm hne), hf, he', hh, hm, hb, cnd_true]
              rw [upd_comm (Ne.symm hne)]
          · cases h
        · rename_i ty l e hh
          split at h
          · rename_i m hm
            cases hb : (wrOk av n && Nat.beq m ty.size) with
            | false => rw [hb] at h; cases h
            | true =>
              rw [hb] at h
              simp only [cnd_true, Option.some.injEq, Prod.mk.injEq] at h
              obtain ⟨rfl, rfl, rfl⟩ := h
              have hw := (Bool.and_eq_true_iff.1 hb).1
              have hnn : nm ≠ n := fun e => by subst e; rw [hh] at hf; cases hf
              refine ⟨(Keeps.put (E := .dead) hw (by rw [hh]; rfl) (by simp)).trans (.fresh (by rw [upd_other _ _ hnn]; exact hf)), fun q E hq hne => ?_⟩
              have hn : n ≠ q := ne_free (by rw [hh]; simp) hq
              simp only [upd_other _ _ hn, upd_other _ _ (Ne.symm hne), hf, he', hh, hm, hb, cnd_true]
              rw [upd_comm (Ne.symm hne), upd_comm hn]
          · rename_i lo2 m hm
            cases hb : (wrOk av n && Nat.beq m ty.size) with
            | false => rw [hb] at h; cases h
            | true =>
              rw [hb] at h
              simp only [cnd_true, Option.some.injEq, Prod.mk.injEq] at h
              obtain ⟨rfl, rfl, rfl⟩ := h
              have hw := (Bool.and_eq_true_iff.1 hb).1
              have hnn : nm ≠ n := fun e => by subst e; rw [hh] at hf; cases hf
              refine ⟨(Keeps.put (E := .dead) hw (by rw [hh]; rfl) (by simp)).trans (.fresh (by rw [upd_other _ _ hnn]; exact hf)), fun q E hq hne => ?_⟩
              have hn : n ≠ q := ne_free (by rw [hh]; simp) hq
              simp only [upd_other _ _ hn, upd_other _ _ (Ne.symm hne), hf, he', hh, hm, hb, cnd_true]
              rw [upd_comm (Ne.symm hne), upd_comm hn]
          · cases h
        · cases h
      · cases h
    · cases h
  · cases h
theorem appendA_wr {t : TypeId} {nm : Nat} {x y : SV} {cs : List SB} {v : SV} (h : appendA P av t nm hp x y = some (cs, v, hp1)) :
    Keeps av hp hp1 ∧ ∀ q E, hp q = .free → q ≠ nm → appendA P av t nm (upd hp q E) x y = some (cs, v, upd hp1 q E) := by
  unfold appendA at h ⊢
  split at h
  · rename_i s x
    split at h
    · rename_i e he
      split at h
      · rename_i ty by_ g z hty hby hz
        split at h
        · rename_i m hm hf
          cases hb : (Nat.beq z.length ty.size && Nat.blt 0 by_) with
          | false => rw [hb] at h; cases h
          | true =>
            rw [hb] at h
            simp only [cnd_true] at h
            have hmq : ∀ q E, hp q = .free → readL none (upd hp q E) ty x = some m := fun q E hq => readL_sees hm ((grows_upd hq E).sees _)
            split at h
            · simp only [Option.some.injEq, Prod.mk.injEq] at h
              obtain ⟨rfl, rfl, rfl⟩ := h
              refine ⟨.fresh hf, fun q E hq hne => ?_⟩
              simp only [he, hty, hby, hz, hmq q E hq, upd_other _ _ (Ne.symm hne), hf, hb, cnd_true]
              rw [upd_comm (Ne.symm hne)]
            · rename_i n
              split at h
              · rename_i t' l e' hh
                split at h
                · rename_i hd hdd
                  cases hb2 : (wrOk av n && (Nat.beq e' e && notIn x n)) with
                  | false => rw [hb2] at h; cases h
                  | true =>
                    rw [hb2] at h
                    simp only [cnd_true, Option.some.injEq, Prod.mk.injEq] at h
                    obtain ⟨rfl, rfl, rfl⟩ := h
                    have hw := (Bool.and_eq_true_iff.1 hb2).1
                    have hnn : nm ≠ n := fun e => by subst e; rw [hh] at hf; cases hf
                    refine ⟨(Keeps.put (E := .dead) hw (by rw [hh]; rfl) (by simp)).trans (.fresh (by rw [upd_other _ _ hnn]; exact hf)), fun q E hq hne => ?_⟩
                    have hn : n ≠ q := ne_free (by rw [hh]; simp) hq
                    simp only [he, hty, hby, hz, hmq q E hq, upd_other _ _ (Ne.symm hne), upd_other _ _ hn, hf, hb, hb2, hh, hdd, cnd_true]
                    rw [upd_comm (Ne.symm hne), upd_comm hn]
                · cases h
              · cases h
            · cases h
        · cases h
      · cases h
    · cases h
  · cases h
theorem opA_cls34 {op : Op} {e : Operand → SV} {nm : Nat} {cs : List SB} {v : SV} (hc : cls P op = 3 ∨ cls P op = 4) (h : opA P av op e nm hp = some (cs, v, hp1)) :
    Keeps av hp hp1 ∧ ∀ q E, hp q = .free → q ≠ nm → opA P av op e nm (upd hp q E) = some (cs, v, upd hp1 q E) := by
  cases op
  case convert s d x =>
    exfalso
    simp only [cls] at hc
    split at hc <;> (rcases hc with hc | hc <;> cases hc)
  case store t x y =>
    simp only [opA] at h ⊢
    exact ⟨(storeA_wr h).1, fun q E hq _ => (storeA_wr h).2 q E hq⟩
  case slice t x lo hi mx =>
    cases mx with
    | some m => simp [opA] at h
    | none =>
      simp only [opA] at h ⊢
      exact sliceA_wr h
  case call c =>
    obtain ⟨callee, as, ts⟩ := c
    cases callee with
    | builtin b =>
      cases b
      case append =>
        simp only [opA] at h ⊢
        generalize as.toList.map e = L at h ⊢
        match L with
        | [s, x] =>
          simp only [builtinA] at h ⊢
          split at h
          · rename_i t t' hts
            cases hb2 : Nat.beq t t' with
            | false => rw [hb2] at h; cases h
            | true =>
              rw [hb2] at h
              simp only [cnd_true] at h
              have := appendA_wr h
              refine ⟨this.1, fun q E hq hne => ?_⟩
              simp only [cnd_true]
              exact this.2 q E hq hne
          · cases h
        | [] => simp [builtinA] at h
        | [_] => simp [builtinA] at h
        | _ :: _ :: _ :: _ => simp [builtinA] at h
      all_goals simp [cls] at hc
    | _ => simp [opA] at h
  all_goals first | (simp [cls] at hc; done) | (simp [opA] at h; done)
end
end Go.Sx
/- A call among others: what it looks at, what it changes. -/
set_option linter.unusedVariables false
set_option linter.unusedSimpArgs false
namespace Go.Sx
section
variable {hp hp' : Hp}
theorem mC_grow (k : CK) {x : SC} {a : k.T} (h : mC hp k x = some a) (hg : Grows hp hp') : mC hp' k x = some a := by
  cases k with
  | sl t =>
    have h1 := readL_sees (mC_sl h) (hg.sees none)
    cases x <;> exact h1
  | int k => cases x <;> exact h
  | bool => cases x <;> exact h
  | str => cases x <;> exact h
  | nsl t =>
    rcases mC_nsl h with ⟨rfl, rfl⟩ | ⟨n, e, rfl, hen⟩
    · exact h
    · have key : hp' n = hp n := hg n (by rcases hen with hen | hen <;> (rw [hen]; simp))
      have h4 : mC hp (.nsl t) (.sl n) = mC hp' (.nsl t) (.sl n) := by
        show (match hp n with
          | .nro t' l e => match t'.dec t with
            | some ⟨h⟩ => some (h ▸ l : List t.T)
            | none => none
          | .nrow t' l e => match t'.dec t with
            | some ⟨h⟩ => some (h ▸ l : List t.T)
            | none => none
          | _ => none) = (match hp' n with
          | .nro t' l e => match t'.dec t with
            | some ⟨h⟩ => some (h ▸ l : List t.T)
            | none => none
          | .nrow t' l e => match t'.dec t with
            | some ⟨h⟩ => some (h ▸ l : List t.T)
            | none => none
          | _ => none)
        rw [key]
      exact h4.symm.trans h
theorem mCs_grow (hg : Grows hp hp') : ∀ (ks : List CK) (xs : List SC) (a : CKs ks), mCs hp ks xs = some a → mCs hp' ks xs = some a
  | [], [], a, h => h
  | [], _ :: _, a, h => no_some (α := Unit) h
  | [k], [x], a, h => mC_grow k h hg
  | [k], [], a, h => no_some (α := k.T) h
  | [k], _ :: _ :: _, a, h => no_some (α := k.T) h
  | k :: k' :: r, [], a, h => no_some (α := k.T × CKs (k' :: r)) h
  | k :: k' :: r, x :: y, a, h => by
    rw [mCs_cons] at h ⊢
    split at h
    · rename_i a1 a2 h1 h2
      rw [mC_grow k h1 hg, mCs_grow hg (k' :: r) y a2 h2]
      exact h
    · exact no_some (α := k.T × CKs (k' :: r)) h
theorem mW_grow (hg : Grows hp hp') (k : WK) {x : SC} {a : k.T} (h : mW hp k x = some a) : mW hp' k x = some a := by
  cases k with
  | c k => exact mC_grow k h hg
  | row t e =>
    obtain ⟨n, rfl, h1⟩ := mW_row h
    have h3 : hp' n = .row t a e := (hg n (by rw [h1]; simp)).trans h1
    have h4 : mW hp (.row t e) (.sl n) = mW hp' (.row t e) (.sl n) := by
      show (match hp n with
        | .row t' l e' => match t'.dec t with
          | some ⟨h⟩ => cnd (Nat.beq e e') (some (h ▸ l : List t.T)) none
          | none => none
        | _ => none) = (match hp' n with
        | .row t' l e' => match t'.dec t with
          | some ⟨h⟩ => cnd (Nat.beq e e') (some (h ▸ l : List t.T)) none
          | none => none
        | _ => none)
      rw [h1, h3]
    exact h4.symm.trans h
theorem mWs_grow (hg : Grows hp hp') : ∀ (ks : List WK) (xs : List SC) (a : WKs ks), mWs hp ks xs = some a → mWs hp' ks xs = some a
  | [], [], a, h => h
  | [], _ :: _, a, h => no_some (α := Unit) h
  | [k], [x], a, h => mW_grow hg k h
  | [k], [], a, h => no_some (α := k.T) h
  | [k], _ :: _ :: _, a, h => no_some (α := k.T) h
  | k :: k' :: r, [], a, h => no_some (α := k.T × WKs (k' :: r)) h
  | k :: k' :: r, x :: y, a, h => by
    rw [mWs_cons] at h ⊢
    split at h
    · rename_i a1 a2 h1 h2
      rw [mW_grow hg k h1, mWs_grow hg (k' :: r) y a2 h2]
      exact h
    · exact no_some (α := k.T × WKs (k' :: r)) h
theorem mA_grow (hg : Grows hp hp') (k : AK) {x : SV} {a : k.T} (h : mA hp k x = some a) : mA hp' k x = some a := by
  cases k with
  | c k =>
    obtain ⟨y, rfl, h1⟩ := mA_c h
    exact mC_grow k h1 hg
  | agg ks =>
    obtain ⟨cs, rfl, h1⟩ := mA_agg h
    exact mCs_grow hg ks cs a h1
  | ptr ks t =>
    obtain ⟨n, cs, rfl, h1, h2⟩ := mA_ptr h
    have h3 : hp' n = .box cs t := (hg n (by rw [h1]; simp)).trans h1
    have h4 := mCs_grow hg ks cs a h2
    show (match hp' n with
      | .box cs t' => cnd (Nat.beq t t') (mCs hp' ks cs) none
      | _ => none) = some a
    rw [h3]
    show cnd (Nat.beq t t) (mCs hp' ks cs) none = some a
    rw [Nat.beq_refl]
    exact h4
  | w g ks =>
    obtain ⟨cs, rfl, h1⟩ := mA_w h
    show cnd (beqB g g) (mWs hp' ks cs) none = some a
    have hb : beqB g g = true := by cases g <;> rfl
    rw [hb]
    exact mWs_grow hg ks cs a h1
theorem mAs_grow (hg : Grows hp hp') : ∀ (ks : List AK) (xs : List SV) (a : AKs ks), mAs hp ks xs = some a → mAs hp' ks xs = some a
  | [], [], a, h => h
  | [], _ :: _, a, h => no_some (α := Unit) h
  | [k], [x], a, h => mA_grow hg k h
  | [k], [], a, h => no_some (α := k.T) h
  | [k], _ :: _ :: _, a, h => no_some (α := k.T) h
  | k :: k' :: r, [], a, h => no_some (α := k.T × AKs (k' :: r)) h
  | k :: k' :: r, x :: y, a, h => by
    rw [mAs_cons] at h ⊢
    split at h
    · rename_i a1 a2 h1 h2
      rw [mA_grow hg k h1, mAs_grow hg (k' :: r) y a2 h2]
      exact h
    · exact no_some (α := k.T × AKs (k' :: r)) h
/-- What is put in lies between two names. -/
structure Out (nm c : Nat) (F : Hp → Hp) : Prop where
  same : ∀ hp q, (q < nm ∨ nm + c ≤ q) → F hp q = hp q
  comm : ∀ hp q E, (q < nm ∨ nm + c ≤ q) → F (upd hp q E) = upd (F hp) q E
  lives : ∀ hp n, hp n ≠ .free → F hp n ≠ .free
theorem Out.id (nm c : Nat) : Out nm c (fun hp => hp) := ⟨fun _ _ _ => rfl, fun _ _ _ _ => rfl, fun _ _ h => h⟩
theorem Out.put {nm n c : Nat} (h1 : nm ≤ n) (h2 : n < nm + c) {E : Ent} (hE : E ≠ .free) : Out nm c (fun hp => upd hp n E) := by
  refine ⟨fun hp q hq => upd_other _ _ (by omega), fun hp q E' hq => upd_comm (by omega) _ _, fun hp m hm => ?_⟩
  by_cases e : m = n
  · subst e; rw [upd_same]; exact hE
  · rw [upd_other _ _ e]; exact hm
theorem Out.comp {nm c nm1 c1 nm2 c2 : Nat} {F G : Hp → Hp} (hF : Out nm1 c1 F) (hG : Out nm2 c2 G) (h1 : nm ≤ nm1) (h2 : nm1 + c1 ≤ nm + c) (h3 : nm ≤ nm2) (h4 : nm2 + c2 ≤ nm + c) : Out nm c (fun hp => G (F hp)) :=
  ⟨fun hp q hq => by rw [hG.same _ _ (by omega), hF.same _ _ (by omega)], fun hp q E hq => by rw [hF.comm _ _ _ (by omega), hG.comm _ _ _ (by omega)], fun hp n hn => hG.lives _ _ (hF.lives _ _ hn)⟩
theorem inC_spec (args : List SV) (old : SC) (nm : Nat) (k : RK) (x : k.T) : ∃ b F, (∀ hp, inC args old nm hp k x = (b, nm + RK.news [k], F hp)) ∧ Out nm (RK.news [k]) F := by
  cases k with
  | own t e => exact ⟨.sl nm, fun hp => upd hp nm (.row t x e), fun hp => rfl, .put (Nat.le_refl _) (by simp [RK.news]) (by simp)⟩
  | exr t e => exact ⟨.sl nm, fun hp => upd hp nm (.ex t x e), fun hp => rfl, .put (Nat.le_refl _) (by simp [RK.news]) (by simp)⟩
  | nown t e => exact ⟨.sl nm, fun hp => upd hp nm (.nrow t x e), fun hp => rfl, .put (Nat.le_refl _) (by simp [RK.news]) (by simp)⟩
  | int k => exact ⟨_, fun hp => hp, fun hp => rfl, .id _ _⟩
  | bool => exact ⟨_, fun hp => hp, fun hp => rfl, .id _ _⟩
  | str => exact ⟨_, fun hp => hp, fun hp => rfl, .id _ _⟩
  | al i j => exact ⟨_, fun hp => hp, fun hp => rfl, .id _ _⟩
  | keep => exact ⟨_, fun hp => hp, fun hp => rfl, .id _ _⟩
theorem inCs_spec (args : List SV) : ∀ (ks : List RK) (x : RKs ks) (old : List SC) (nm : Nat), ∃ b F, (∀ hp, inCs args ks x old nm hp = (b, nm + RK.news ks, F hp)) ∧ Out nm (RK.news ks) F
  | [], x, old, nm => ⟨[], fun hp => hp, fun hp => rfl, .id _ _⟩
  | [k], x, old, nm => by
    obtain ⟨b, F, h1, h2⟩ := inC_spec args (old.headD .any) nm k x
    exact ⟨[b], F, fun hp => (inCs_one args k x old nm hp).trans (by rw [h1]), h2⟩
  | k :: k' :: r, x, old, nm => by
    obtain ⟨b, F, h1, h2⟩ := inC_spec args (old.headD .any) nm k x.1
    obtain ⟨b2, F2, h3, h4⟩ := inCs_spec args (k' :: r) x.2 old.tail (nm + RK.news [k])
    have hn := news_cons k (k' :: r)
    refine ⟨b :: b2, fun hp => F2 (F hp), fun hp => ?_, h2.comp h4 (Nat.le_refl _) (by omega) (by omega) (by omega)⟩
    refine (inCs_cons args k k' r x old nm hp).trans ?_
    rw [h1]
    simp only []
    rw [h3, hn, Nat.add_assoc]
theorem inO_spec (args : List SV) (nm : Nat) (k : OK) (x : k.T) : ∃ b F, (∀ hp, inO args k x nm hp = (b, nm + OK.news [k], F hp)) ∧ Out nm (OK.news [k]) F := by
  cases k with
  | v g ks =>
    obtain ⟨b, F, h1, h2⟩ := inCs_spec args ks x [] nm
    refine ⟨(g, b), F, fun hp => ?_, h2⟩
    show (match inCs args ks x [] nm hp with
      | (cs, nm, hp) => ((g, cs), nm, hp)) = _
    rw [h1]
    rfl
  | row t e =>
    have hn : OK.news [.row t e] = 1 := rfl
    refine ⟨(false, [.any]), fun hp => hp, fun hp => ?_, .id _ _⟩
    rw [hn]
    rfl
  | box ks t =>
    obtain ⟨b, F, h1, h2⟩ := inCs_spec args ks x [] (nm + 1)
    have hn : OK.news [.box ks t] = RK.news ks + 1 := rfl
    refine ⟨(false, [.ptr nm 0]), fun hp => upd (F hp) nm (.box b t), fun hp => ?_, ?_⟩
    · show (match inCs args ks x [] (nm + 1) hp with
        | (cs, nm', hp) => ((false, [SC.ptr nm 0]), nm', upd hp nm (.box cs t))) = _
      rw [h1, hn]
      simp only []
      rw [Nat.add_assoc, Nat.add_comm 1]
    · exact h2.comp (nm2 := nm) (c2 := 1) (.put (Nat.le_refl _) (by omega) (by simp)) (by omega) (by omega) (by omega) (by omega)
theorem upO_spec (args : List SV) {p nm : Nat} (hpp : hp p ≠ .free) (k : OK) (x : k.T) (hr : ∀ m, nm ≤ m → m < nm + OK.news [k] → hp m = .free) :
    ∃ nm' hp1, upO args p k x nm hp = (nm', hp1) ∧ nm ≤ nm' ∧ nm' ≤ nm + OK.news [k] ∧ (∀ m, m ≠ p → (m < nm ∨ nm' ≤ m) → hp1 m = hp m) ∧ (∀ m, hp m ≠ .free → hp1 m ≠ .free) ∧
      ∀ q E, hp q = .free → (q < nm ∨ nm + OK.news [k] ≤ q) → upO args p k x nm (upd hp q E) = (nm', upd hp1 q E) := by
  cases k with
  | v g ks => exact ⟨nm, hp, rfl, Nat.le_refl _, Nat.le_add_right _ _, fun _ _ _ => rfl, fun _ h => h, fun _ _ _ _ => rfl⟩
  | row t e =>
    refine ⟨nm, upd hp p (.row t x e), rfl, Nat.le_refl _, Nat.le_add_right _ _, fun m hm _ => upd_other _ _ hm, fun m hm => ?_, fun q E hq _ => ?_⟩
    · by_cases e : m = p
      · subst e; rw [upd_same]; simp
      · rw [upd_other _ _ e]; exact hm
    · have hne : p ≠ q := ne_free hpp hq
      show (nm, upd (upd hp q E) p (.row t x e)) = (nm, upd (upd hp p (.row t x e)) q E)
      rw [upd_comm hne]
  | box ks t =>
    have hun : ∀ hpx : Hp, upO args p (.box ks t) x nm hpx = (match hpx p with
      | .box old _ => match inCs args ks x old nm hpx with
        | (cs, nm, hp) => (nm, upd hp p (.box cs t))
      | _ => (nm, hpx)) := fun hpx => rfl
    cases hh : hp p with
    | box old t0 =>
      obtain ⟨b, F, h1, h2⟩ := inCs_spec args ks x old nm
      have hn : OK.news [.box ks t] = RK.news ks + 1 := rfl
      refine ⟨nm + RK.news ks, upd (F hp) p (.box b t), ?_, Nat.le_add_right _ _, by omega, fun m hm hmm => ?_, fun m hm => ?_, fun q E hq hqq => ?_⟩
      · rw [hun, hh]; simp only []; rw [h1]
      · rw [upd_other _ _ hm, h2.same _ _ hmm]
      · by_cases e : m = p
        · subst e; rw [upd_same]; simp
        · rw [upd_other _ _ e]; exact h2.lives _ _ hm
      · have hne : p ≠ q := ne_free hpp hq
        rw [hun, upd_other _ _ hne, hh]
        simp only []
        rw [h1]
        simp only []
        rw [h2.comm _ _ _ (by omega), upd_comm hne]
    | free => exact absurd hh hpp
    | _ =>
      refine ⟨nm, hp, by rw [hun, hh], Nat.le_refl _, Nat.le_add_right _ _, fun _ _ _ => rfl, fun _ h => h, fun q E hq hqq => ?_⟩
      have hne : p ≠ q := ne_free hpp hq
      rw [hun, upd_other _ _ hne, hh]
theorem inOs_spec (args : List SV) : ∀ (ks : List OK) (b : OKs ks) (n : Nat) (ps : List Nat) (nm : Nat) (hp : Hp), (∀ m, nm ≤ m → m < nm + OK.news ks → hp m = .free) → (∀ p, p ∈ ps → hp p ≠ .free) →
    (∀ m, hp m ≠ .free → m ∉ ps → (inOs args n ps ks b nm hp).2 m = hp m) ∧ (∀ m, hp m ≠ .free → (inOs args n ps ks b nm hp).2 m ≠ .free) ∧
      ∀ q E, hp q = .free → (q < nm ∨ nm + OK.news ks ≤ q) → inOs args n ps ks b nm (upd hp q E) = ((inOs args n ps ks b nm hp).1, upd (inOs args n ps ks b nm hp).2 q E)
  | [], b, n, ps, nm, hp, hr, hps => by
    have : ∀ hpx : Hp, inOs args n ps [] b nm hpx = ([], hpx) := fun hpx => by cases n <;> cases ps <;> rfl
    exact ⟨fun m _ _ => by rw [this], fun m h => by rw [this]; exact h, fun q E _ _ => by rw [this, this]⟩
  | [k], b, 0, [], nm, hp, hr, hps => ⟨fun _ _ _ => rfl, fun _ h => h, fun _ _ _ _ => rfl⟩
  | k :: k' :: r, b, 0, [], nm, hp, hr, hps => ⟨fun _ _ _ => rfl, fun _ h => h, fun _ _ _ _ => rfl⟩
  | [k], b, 0, p :: ps, nm, hp, hr, hps => by
    obtain ⟨nm', hp1, h1, h2, h3, h4, h5, h6⟩ := upO_spec args (hps p List.mem_cons_self) k b hr
    have hun : ∀ hpx : Hp, inOs args 0 (p :: ps) [k] b nm hpx = ([], (upO args p k b nm hpx).2) := fun hpx => rfl
    simp only [hun, h1]
    refine ⟨fun m hm hmp => h4 m (fun e => hmp (by rw [e]; exact List.mem_cons_self)) ?_, h5, fun q E hq hqq => by rw [h6 q E hq hqq]⟩
    by_cases hc : m < nm
    · exact .inl hc
    · by_cases hd : m < nm + OK.news [k]
      · exact absurd (hr m (by omega) hd) hm
      · exact .inr (by omega)
  | k :: k' :: r, b, 0, p :: ps, nm, hp, hr, hps => by
    have hn := onews_cons k (k' :: r)
    obtain ⟨nm', hp1, h1, h2, h3, h4, h5, h6⟩ := upO_spec args (hps p List.mem_cons_self) k b.1 (fun m h1 h2 => hr m h1 (by omega))
    have hfr : ∀ m, nm' ≤ m → m < nm' + OK.news (k' :: r) → hp1 m = .free := fun m h7 h8 => by
      have hf := hr m (by omega) (by omega)
      rw [h4 m (fun e => hps p List.mem_cons_self (by rw [← e]; exact hf)) (.inr h7)]
      exact hf
    obtain ⟨i1, i2, i3⟩ := inOs_spec args (k' :: r) b.2 0 ps nm' hp1 hfr (fun p' hp' => h5 p' (hps p' (List.mem_cons_of_mem _ hp')))
    have hun : ∀ hpx : Hp, inOs args 0 (p :: ps) (k :: k' :: r) b nm hpx = (match upO args p k b.1 nm hpx with
      | (nm, hp) => inOs args 0 ps (k' :: r) b.2 nm hp) := fun hpx => rfl
    simp only [hun, h1]
    refine ⟨fun m hm hmp => ?_, fun m hm => i2 m (h5 m hm), fun q E hq hqq => ?_⟩
    · have hmo : m < nm ∨ nm' ≤ m := by
        by_cases hc : m < nm
        · exact .inl hc
        · by_cases hd : m < nm + OK.news (k :: k' :: r)
          · exact absurd (hr m (by omega) hd) hm
          · exact .inr (by omega)
      have hmp1 : m ≠ p := fun e => hmp (by rw [e]; exact List.mem_cons_self)
      rw [i1 m (h5 m hm) (fun h => hmp (List.mem_cons_of_mem _ h)), h4 m hmp1 hmo]
    · rw [h6 q E hq (by omega)]
      simp only []
      have hq1 : hp1 q = .free := by
        rw [h4 q (fun e => hps p List.mem_cons_self (by rw [← e]; exact hq)) (by omega)]
        exact hq
      exact i3 q E hq1 (by omega)
  | [k], b, n + 1, ps, nm, hp, hr, hps => by
    obtain ⟨r, F, h1, h2⟩ := inO_spec args nm k b
    have hun : ∀ hpx : Hp, inOs args (n + 1) ps [k] b nm hpx = ((match inO args k b nm hpx with
      | (v, nm, hp) => ([v], hp)) : List (Bool × List SC) × Hp) := fun hpx => rfl
    simp only [hun, h1]
    refine ⟨fun m hm hmp => h2.same _ _ ?_, fun m hm => h2.lives _ _ hm, fun q E hq hqq => by rw [h2.comm _ _ _ hqq]⟩
    by_cases hc : m < nm
    · exact .inl hc
    · by_cases hd : m < nm + OK.news [k]
      · exact absurd (hr m (by omega) hd) hm
      · exact .inr (by omega)
  | k :: k' :: r, b, n + 1, ps, nm, hp, hr, hps => by
    have hn := onews_cons k (k' :: r)
    obtain ⟨v, F, h1, h2⟩ := inO_spec args nm k b.1
    have hfr : ∀ m, nm + OK.news [k] ≤ m → m < nm + OK.news [k] + OK.news (k' :: r) → F hp m = .free := fun m h7 h8 => by
      rw [h2.same _ _ (.inr h7)]
      exact hr m (by omega) (by omega)
    obtain ⟨i1, i2, i3⟩ := inOs_spec args (k' :: r) b.2 n ps (nm + OK.news [k]) (F hp) hfr (fun p' hp' => h2.lives _ _ (hps p' hp'))
    have hun : ∀ hpx : Hp, inOs args (n + 1) ps (k :: k' :: r) b nm hpx = ((match inO args k b.1 nm hpx with
      | (v, nm, hp) => match inOs args n ps (k' :: r) b.2 nm hp with
        | (vs, hp) => (v :: vs, hp)) : List (Bool × List SC) × Hp) := fun hpx => rfl
    simp only [hun, h1]
    refine ⟨fun m hm hmp => ?_, fun m hm => i2 m (h2.lives _ _ hm), fun q E hq hqq => ?_⟩
    · have hmo : m < nm ∨ nm + OK.news [k] ≤ m := by
        by_cases hc : m < nm
        · exact .inl hc
        · by_cases hd : m < nm + OK.news (k :: k' :: r)
          · exact absurd (hr m (by omega) hd) hm
          · exact .inr (by omega)
      rw [i1 m (h2.lives _ _ hm) hmp, h2.same _ _ hmo]
    · rw [h2.comm _ _ _ (by omega), i3 q E (by rw [h2.same _ _ (by omega)]; exact hq) (by omega)]
end
end Go.Sx
/- Two steps that no order binds may change places. -/
set_option linter.unusedVariables false
set_option linter.unusedSimpArgs false
namespace Go.Sx
/-- One operation's way, told of its operands alone. -/
inductive WaysE (C : Ctx) (av : Av) (op : Op) (e : Operand → SV) (nm : Nat) (hp : Hp) : SV → Hp → Prop
  | pick (c a b : Operand) (s : SB) (ho : op = .pick c a b) (hs : e c = .a false [.bool s]) : WaysE C av op e nm hp (if s.b = true then e a else e b) hp
  | call (f : FuncId) (as : Array Operand) (ts : Array TypeId) (con : Con) (x : AKs con.ak) (b : OKs con.rk) (ho : op = .call { callee := .value (.func f), args := as, argTypes := ts }) (hG : C.G f = some con)
      (hx : mAs hp con.ak (as.toList.map e) = some x) (hf : con.fn C.k x = some b)
      (hc : (((ptrs con.ak (as.toList.map e)).all (wrOk av) && apN con.ak (as.toList.map e)) && (freeN hp nm (OK.news con.rk) && Nat.ble (OK.news con.rk) 16)) = true) :
      WaysE C av op e nm hp (resV con.nres (inOs (as.toList.map e) con.nres (ptrs con.ak (as.toList.map e)) con.rk b nm hp).1) (inOs (as.toList.map e) con.nres (ptrs con.ak (as.toList.map e)) con.rk b nm hp).2
  | op (cs : List SB) (v : SV) (hp1 : Hp) (ho : opA C.P av op e nm hp = some (cs, v, hp1)) (hc : ∀ s ∈ cs, s.b = true) : WaysE C av op e nm hp v hp1
section
variable {C : Ctx} {av : Av} {op : Op} {e e' : Operand → SV} {nm : Nat} {hp hp' hp1 : Hp} {v : SV}
theorem ways_e {o : Oper} {σ : St} {v : SV} {hp : Hp} : Ways C av o nm σ v hp ↔ WaysE C av o.op (ev σ.tm) nm σ.hp v hp := by
  constructor
  · intro h
    cases h with
    | pick c a b s ho hs => exact .pick c a b s ho hs
    | call f as ts con x b ho hG hx hf hc => exact .call f as ts con x b ho hG hx hf hc
    | op cs v hp ho hc => exact .op cs v hp ho hc
  · intro h
    cases h with
    | pick c a b s ho hs => exact .pick c a b s ho hs
    | call f as ts con x b ho hG hx hf hc => exact .call f as ts con x b ho hG hx hf hc
    | op cs v hp ho hc => exact .op cs v hp ho hc
theorem ways0 (hc : cls C.P op = 0) (h : WaysE C av op e nm hp v hp1) : hp1 = hp ∧ ∀ av' nm' hp', WaysE C av' op e nm' hp' v hp' := by
  cases h with
  | pick c a b s ho hs => exact ⟨rfl, fun av' nm' hp' => .pick c a b s ho hs⟩
  | call f as ts con x b ho hG hx hf hcc => subst ho; simp [cls] at hc
  | op cs v hp ho hcc =>
    obtain ⟨h1, h2⟩ := opA_cls0 hc ho
    exact ⟨h1, fun av' nm' hp' => .op cs v hp' (h2 av' nm' hp') hcc⟩
theorem ways1 (hc : cls C.P op = 1) (h : WaysE C av op e nm hp v hp1) : hp1 = hp ∧ ∀ nm' hp', Sees av hp hp' → WaysE C av op e nm' hp' v hp' := by
  cases h with
  | pick c a b s ho hs => subst ho; simp [cls] at hc
  | call f as ts con x b ho hG hx hf hcc => subst ho; simp [cls] at hc
  | op cs v hp ho hcc =>
    obtain ⟨h1, h2⟩ := opA_cls1 hc ho
    exact ⟨h1, fun nm' hp' hs => .op cs v hp' (h2 nm' hp' hs) hcc⟩
theorem ways2 (hc : cls C.P op = 2) (h : WaysE C av op e nm hp v hp1) : hp nm = .free ∧ ∃ E, wrE E ∧ hp1 = upd hp nm E ∧ ∀ av' hp', hp' nm = .free → WaysE C av' op e nm hp' v (upd hp' nm E) := by
  cases h with
  | pick c a b s ho hs => subst ho; simp [cls] at hc
  | call f as ts con x b ho hG hx hf hcc => subst ho; simp [cls] at hc
  | op cs v hp ho hcc =>
    obtain ⟨h1, E, hE, h2, h3⟩ := opA_cls2 hc ho
    exact ⟨h1, E, hE, h2, fun av' hp' hf => .op cs v _ (h3 av' hp' hf) hcc⟩
theorem freeN_all {n : Nat} : (∀ m, nm ≤ m → m < nm + n → hp m = .free) → freeN hp nm n = true := by
  induction n with
  | zero => intro _; rfl
  | succ n ih =>
    intro h
    unfold freeN
    rw [h (nm + n) (by omega) (by omega)]
    exact ih fun m h1 h2 => h m h1 (by omega)
theorem ways34 (hc : cls C.P op = 3 ∨ cls C.P op = 4) (h : WaysE C av op e nm hp v hp1) : Keeps av hp hp1 ∧ ∀ q E, hp q = .free → (q < nm ∨ nm + 16 ≤ q) → WaysE C av op e nm (upd hp q E) v (upd hp1 q E) := by
  cases h with
  | pick c a b s ho hs => subst ho; simp [cls] at hc
  | call f as ts con x b ho hG hx hf hcc =>
    have hb := hcc
    rw [Bool.and_eq_true, Bool.and_eq_true, Bool.and_eq_true] at hb
    have hle : OK.news con.rk ≤ 16 := Nat.le_of_ble_eq_true hb.2.2
    have hfree := freeN_some hb.2.1
    have hbox := ptr_box con.ak x _ hx
    have hps : ∀ p, p ∈ ptrs con.ak (as.toList.map e) → hp p ≠ .free := fun p hp' hh => by
      have := hbox p hp'
      rw [hh] at this
      exact this
    obtain ⟨h1, h2, h3⟩ := inOs_spec (as.toList.map e) con.rk b con.nres (ptrs con.ak (as.toList.map e)) nm hp hfree hps
    refine ⟨⟨fun n hn hh => ?_, h2⟩, fun q E hq hqq => ?_⟩
    · refine h1 n hn fun hmem => ?_
      have hw := List.all_eq_true.1 hb.1.1 n hmem
      have hbx := hbox n hmem
      rcases hh with hh | hh
      · rw [hw] at hh; cases hh
      · cases hx2 : hp n <;> rw [hx2] at hh hbx <;> first | exact hbx | (cases hh; done)
    · have hfr2 : freeN (upd hp q E) nm (OK.news con.rk) = true := freeN_all fun m h4 h5 => by
        rw [upd_other _ _ (by omega)]
        exact hfree m h4 h5
      have hc2 : (((ptrs con.ak (as.toList.map e)).all (wrOk av) && apN con.ak (as.toList.map e)) && (freeN (upd hp q E) nm (OK.news con.rk) && Nat.ble (OK.news con.rk) 16)) = true := by
        rw [Bool.and_eq_true, Bool.and_eq_true, Bool.and_eq_true]
        exact ⟨hb.1, hfr2, hb.2.2⟩
      have h4 := WaysE.call (C := C) (av := av) (op := op) (e := e) (nm := nm) (hp := upd hp q E) f as ts con x b ho hG (mAs_grow (grows_upd hq E) con.ak _ x hx) hf hc2
      rw [h3 q E hq (by omega)] at h4
      exact h4
  | op cs v hp ho hcc =>
    obtain ⟨h1, h2⟩ := opA_cls34 hc ho
    exact ⟨h1, fun q E hq hqq => .op cs v _ (h2 q E hq (by omega)) hcc⟩
theorem ways_sl (hs : isSl C.P op = true) (h : WaysE C (some []) op e nm hp v hp1) : hp nm = .free ∧ ∃ n E, isRo (hp n) = true ∧ hp1 = upd hp nm E ∧ ∀ hp', hp' nm = .free → hp' n = hp n → WaysE C (some []) op e nm hp' v (upd hp' nm E) := by
  unfold isSl at hs
  split at hs
  · rename_i t x lo hi mx
    cases h with
    | pick c a b s ho hs => cases ho
    | call f as ts con x b ho hG hx hf hcc => cases ho
    | op cs v hp1 ho hcc =>
      cases mx with
      | some m => simp [opA] at ho
      | none =>
        have hu : C.P.underlying t ≠ some .string := fun hu => by
          simp only [cls, hu] at hs
          cases hs
        have hun : ∀ hpx : Hp, opA C.P (some []) (.slice t x lo hi none) e nm hpx = sliceA C.P (some []) t nm hpx (e x) (lo.map e) (hi.map e) := fun _ => rfl
        rw [hun] at ho
        unfold sliceA at ho
        split at ho
        · rename_i lo' hi' hlo hhi
          split at ho
          · split at ho
            · rename_i hu'; exact absurd hu' hu
            · cases ho
          · rename_i n hx
            split at ho
            · rename_i e' hfr hsl
              split at ho
              · rename_i ty l el hro
                split at ho
                · rename_i m hm
                  cases hb : Nat.beq m ty.size with
                  | false => rw [hb] at ho; cases ho
                  | true =>
                    rw [hb] at ho
                    simp only [cnd_true, Option.some.injEq, Prod.mk.injEq] at ho
                    obtain ⟨rfl, rfl, rfl⟩ := ho
                    refine ⟨hfr, n, _, by rw [hro]; rfl, rfl, fun hp' h1 h2 => .op _ _ _ ?_ hcc⟩
                    rw [hun]
                    unfold sliceA
                    simp only [hlo, hhi, hx, h1, hsl, h2, hro, hm, hb, cnd_true]
                · cases ho
              · split at ho <;> first | (cases ho; done) | (simp [wrOk, memN] at ho)
              · cases ho
            · cases ho
          · cases ho
        · cases ho
  · cases hs
theorem cls_all (P : Program) (op : Op) : cls P op = 0 ∨ cls P op = 1 ∨ cls P op = 2 ∨ cls P op = 3 ∨ cls P op = 4 := by
  unfold cls
  split <;> first | simp | (split <;> simp)
theorem sees_keeps {S : List Nat} (h : Keeps (some S) hp hp') : Sees (some S) hp hp' := fun n hn hh => h.old n hn (hh.imp (fun h1 => by
  cases hm : memN n S with
  | true => simp [rdOk, hm] at h1
  | false => simp [wrOk, hm]) id)
/-- Operands that look alike. -/
theorem opA_congr {P : Program} (h : ∀ x ∈ op.operands, e x = e' x) : opA P av op e nm hp = opA P av op e' nm hp := by
  have pairs : ∀ ps : Array (Nat × Operand), (∀ x ∈ (ps.toList.map (·.2)).toArray, e x = e' x) → (ps.toList.map fun p => (p.1, e p.2)) = (ps.toList.map fun p => (p.1, e' p.2)) := fun ps hp =>
    List.map_congr_left fun p hm => by rw [hp p.2 (by simpa using ⟨p.1, by simpa using hm⟩)]
  cases op <;> simp only [Op.operands] at h <;> simp only [opA]
  case build t ps => rw [pairs ps h]
  case buildSlice t n ps => rw [pairs ps h]
  case slice t x lo hi mx =>
    cases mx with
    | some m => rfl
    | none => cases lo <;> cases hi <;> simp_all
  case call c =>
    obtain ⟨callee, as, ts⟩ := c
    cases callee with
    | builtin b =>
      simp only []
      rw [List.map_congr_left (l := as.toList) (g := e') fun x hx => h x (by simp [Call.operands]; simpa using hx)]
    | _ => rfl
  all_goals first | rfl | (simp_all; done)
theorem ways_congr (h : ∀ x ∈ op.operands, e x = e' x) (hw : WaysE C av op e nm hp v hp1) : WaysE C av op e' nm hp v hp1 := by
  cases hw with
  | pick c a b s ho hs =>
    subst ho
    simp only [Op.operands] at h
    rw [h a (by simp), h b (by simp)]
    exact .pick c a b s rfl (by rw [← h c (by simp)]; exact hs)
  | call f as ts con x b ho hG hx hf hc =>
    subst ho
    have hm : as.toList.map e = as.toList.map e' := List.map_congr_left fun x hx => h x (by simp [Op.operands, Call.operands]; exact .inr (by simpa using hx))
    rw [hm] at hx hc ⊢
    exact .call f as ts con x b rfl hG hx hf hc
  | op cs v hp ho hc => exact .op cs v _ (by rw [← opA_congr h]; exact ho) hc
end
/-! ### what a call makes -/
def NewOK (hp hp' : Hp) : Prop := ∀ n, hp' n = hp n ∨ wrE (hp' n)
theorem NewOK.refl (hp : Hp) : NewOK hp hp := fun _ => .inl rfl
theorem NewOK.trans {a b c : Hp} (h : NewOK a b) (k : NewOK b c) : NewOK a c := fun n => by
  rcases k n with k1 | k1
  · rw [k1]; exact h n
  · exact .inr k1
theorem NewOK.upd {a b : Hp} (h : NewOK a b) (n : Nat) {e : Ent} (he : wrE e) : NewOK a (upd b n e) := fun k => by
  by_cases hk : k = n
  · subst hk; rw [upd_same]; exact .inr he
  · rw [upd_other _ _ hk]; exact h k
theorem inC_new (args : List SV) (old : SC) (nm : Nat) (hp : Hp) (k : RK) (x : k.T) : NewOK hp (inC args old nm hp k x).2.2 := by
  cases k with
  | own t e => exact (NewOK.refl hp).upd nm trivial
  | exr t e => exact (NewOK.refl hp).upd nm trivial
  | nown t e => exact (NewOK.refl hp).upd nm trivial
  | _ => exact NewOK.refl hp
theorem inCs_new (args : List SV) : ∀ (ks : List RK) (x : RKs ks) (old : List SC) (nm : Nat) (hp : Hp), NewOK hp (inCs args ks x old nm hp).2.2
  | [], x, old, nm, hp => NewOK.refl hp
  | [k], x, old, nm, hp => inC_new args _ nm hp k x
  | k :: k' :: r, x, old, nm, hp => (inC_new args _ nm hp k x.1).trans (inCs_new args (k' :: r) x.2 old.tail _ _)
theorem inO_new (args : List SV) (k : OK) (x : k.T) (nm : Nat) (hp : Hp) : NewOK hp (inO args k x nm hp).2.2 := by
  cases k with
  | v g ks => exact inCs_new args ks x [] nm hp
  | box ks t => exact (inCs_new args ks x [] (nm + 1) hp).upd nm trivial
  | row t e => exact NewOK.refl hp
theorem upO_new (args : List SV) (p : Nat) (k : OK) (x : k.T) (nm : Nat) (hp : Hp) : NewOK hp (upO args p k x nm hp).2 := by
  cases k with
  | v g ks => exact NewOK.refl hp
  | box ks t =>
    show NewOK hp (match hp p with
      | .box old _ => match inCs args ks x old nm hp with
        | (cs, nm, hp) => (nm, upd hp p (.box cs t))
      | _ => (nm, hp) : Nat × Hp).2
    split
    · exact (inCs_new args ks x _ nm hp).upd p trivial
    · exact NewOK.refl hp
  | row t e => exact (NewOK.refl hp).upd p trivial
theorem inOs_new (args : List SV) : ∀ (n : Nat) (ps : List Nat) (ks : List OK) (x : OKs ks) (nm : Nat) (hp : Hp), NewOK hp (inOs args n ps ks x nm hp).2
  | 0, [], [], x, nm, hp => NewOK.refl hp
  | 0, [], [k], x, nm, hp => NewOK.refl hp
  | 0, [], k :: k' :: r, x, nm, hp => NewOK.refl hp
  | 0, p :: ps, [], x, nm, hp => NewOK.refl hp
  | 0, p :: ps, [k], x, nm, hp => upO_new args p k x nm hp
  | 0, p :: ps, k :: k' :: r, x, nm, hp => (upO_new args p k x.1 nm hp).trans (inOs_new args 0 ps (k' :: r) x.2 _ _)
  | n + 1, ps, [], x, nm, hp => NewOK.refl hp
  | n + 1, ps, [k], x, nm, hp => inO_new args k x nm hp
  | n + 1, ps, k :: k' :: r, x, nm, hp => (inO_new args k x.1 nm hp).trans (inOs_new args n ps (k' :: r) x.2 _ _)
theorem isFc_cls {P : Program} {op : Op} (hf : isFc op = true) : cls P op = 2 ∨ cls P op = 3 := by
  unfold isFc at hf
  split at hf
  all_goals first | exact .inr rfl | exact .inl rfl | cases hf
theorem ways_fc {C : Ctx} {av : Av} {op : Op} {e : Operand → SV} {nm : Nat} {hp hp1 : Hp} {v : SV} (hf : isFc op = true) (h : WaysE C av op e nm hp v hp1) : NewOK hp hp1 ∧ ∀ q, hp q = .free → (q < nm ∨ nm + 16 ≤ q) → hp1 q = .free := by
  by_cases hc2 : cls C.P op = 2
  · obtain ⟨h1, E, hE, rfl, _⟩ := ways2 hc2 h
    exact ⟨(NewOK.refl hp).upd nm hE, fun q hq hqq => by rw [upd_other _ _ (by omega)]; exact hq⟩
  cases h with
  | pick c a b s ho hs => subst ho; cases hf
  | call f as ts con x b ho hG hx hfn hcc =>
    refine ⟨inOs_new _ _ _ _ _ _ _, fun q hq hqq => ?_⟩
    rw [Bool.and_eq_true, Bool.and_eq_true, Bool.and_eq_true] at hcc
    have hle : OK.news con.rk ≤ 16 := Nat.le_of_ble_eq_true hcc.2.2
    have hfree := freeN_some hcc.2.1
    have hbox := ptr_box con.ak x _ hx
    have hps : ∀ p, p ∈ ptrs con.ak (as.toList.map e) → hp p ≠ .free := fun p hp' hh => by
      have := hbox p hp'
      rw [hh] at this
      exact this
    obtain ⟨_, _, h3⟩ := inOs_spec (as.toList.map e) con.rk b con.nres (ptrs con.ak (as.toList.map e)) nm hp hfree hps
    have h4 := h3 q .free hq (by omega)
    have h5 : upd hp q .free = hp := by
      funext k
      by_cases hk : k = q
      · subst hk; rw [upd_same]; exact hq.symm
      · rw [upd_other _ _ hk]
    rw [h5] at h4
    have h6 := congrFun (congrArg Prod.snd h4) q
    simp only [] at h6
    rw [upd_same] at h6
    exact h6
  | op cs v hp ho hc =>
    exfalso
    unfold isFc at hf
    split at hf
    · simp [opA] at ho
    all_goals first | exact hc2 rfl | cases hf
theorem sees_back {C : Ctx} {S : List Nat} {op : Op} {e : Operand → SV} {nm : Nat} {hp hp1 : Hp} {v : SV} (hf : isFc op = true) (h : WaysE C (some S) op e nm hp v hp1) (hS : ∀ q, nm ≤ q → q < nm + 16 → memN q S = true) : Sees (some S) hp1 hp := by
  obtain ⟨h1, h2⟩ := ways_fc hf h
  have hk : Keeps (some S) hp hp1 := by
    rcases isFc_cls (P := C.P) hf with hc | hc
    · obtain ⟨hf1, E, hE, rfl, _⟩ := ways2 hc h
      exact Keeps.fresh hf1
    · exact (ways34 (.inl hc) h).1
  intro n hn hh
  rcases h1 n with h3 | h3
  · exact h3.symm
  · have hrd : memN n S = false := by
      rcases hh with hh | hh
      · have hh : (!(memN n S)) = true := hh
        cases hm : memN n S with
        | false => rfl
        | true => rw [hm] at hh; cases hh
      · cases hx : hp1 n <;> rw [hx] at h3 hh <;> first | exact h3.elim | (cases hh; done)
    by_cases hfr : hp n = .free
    · exfalso
      by_cases hin : nm ≤ n ∧ n < nm + 16
      · rw [hS n hin.1 hin.2] at hrd; cases hrd
      · exact hn (h2 n hfr (by omega))
    · exact (hk.old n hfr (.inl hrd)).symm
end Go.Sx
/- The order of a region that draws is open: in every order it comes to the same. -/
set_option linter.unusedVariables false
set_option linter.unusedSimpArgs false
namespace Go.Sx
def gOn (ops : List Oper) (tm : Nat → SV) (o : Oper) : Prop := o.guard = none ∨ ∃ g want d s, o.guard = some (g, want) ∧ (ops[g]?).bind (·.dst) = some d ∧ tm d = .a false [.bool s] ∧ s.b = want
def gOff (ops : List Oper) (tm : Nat → SV) (o : Oper) : Prop := ∃ g want d, o.guard = some (g, want) ∧ (ops[g]?).bind (·.dst) = some d ∧ ((∃ s, tm d = .a false [.bool s] ∧ s.b ≠ want) ∨ ∃ xs, tm d = .tup xs)
def Eff (C : Ctx) (av : Av) (ops : List Oper) (o : Oper) (nm : Nat) (tm : Nat → SV) (hp : Hp) (v : SV) (hp1 : Hp) : Prop :=
  (gOn ops tm o ∧ WaysE C av o.op (ev tm) nm hp v hp1) ∨ (gOff ops tm o ∧ v = .tup [] ∧ hp1 = hp)
section
variable {C : Ctx} {av : Av} {ops : List Oper} {o : Oper} {nm : Nat} {tm : Nat → SV} {hp hp' hp1 hp2 : Hp} {v : SV}
theorem step_eff {i : Nat} {σ σ' : St} : Step C av ops i σ σ' ↔ ∃ o v hp1, ops[i]? = some o ∧ (∀ d, o.dst = some d → d < C.N) ∧ Eff C av ops o (σ.nx + 16 * i) σ.tm σ.hp v hp1 ∧ σ' = ⟨putT σ.tm o.dst v, hp1, σ.nx⟩ := by
  constructor
  · intro h
    cases h with
    | go o ho hg v hp hw hd => exact ⟨o, v, hp, ho, hd, .inl ⟨hg, ways_e.1 hw⟩, rfl⟩
    | skip o ho g want d hg hdd hs hd => exact ⟨o, .tup [], σ.hp, ho, hd, .inr ⟨⟨g, want, d, hg, hdd, hs⟩, rfl, rfl⟩, rfl⟩
  · rintro ⟨o, v, hp1, ho, hd, he, rfl⟩
    rcases he with ⟨hg, hw⟩ | ⟨⟨g, want, d, hg, hdd, hs⟩, rfl, rfl⟩
    · exact .go o ho hg v hp1 (ways_e.2 hw) hd
    · exact .skip o ho g want d hg hdd hs hd
theorem putT_at {dst : Option Tmp} {u : SV} {t : Nat} (h : ∀ d, dst = some d → t ≠ d) : putT tm dst u t = tm t := by
  cases dst with
  | none => rfl
  | some d => exact upd_other _ _ (h d rfl)
theorem eff_tm {tm' : Nat → SV} (h : ∀ t, t ∈ o.looksAt ops.toArray → tm' t = tm t) (he : Eff C av ops o nm tm hp v hp1) : Eff C av ops o nm tm' hp v hp1 := by
  have hgd : ∀ g want d, o.guard = some (g, want) → (ops[g]?).bind (·.dst) = some d → tm' d = tm d := fun g want d hg hd => h d (by
    unfold Oper.looksAt
    refine List.mem_append_right _ ?_
    rw [hg]
    have : (ops.toArray[g]?).bind (·.dst) = some d := by simpa using hd
    simp only []
    rw [this]
    simp)
  rcases he with ⟨hg, hw⟩ | ⟨⟨g, want, d, hg, hd, hs⟩, rfl, rfl⟩
  · refine .inl ⟨?_, ways_congr (fun x hx => ?_) hw⟩
    · rcases hg with hg | ⟨g, want, d, s, hg, hd, hs, hb⟩
      · exact .inl hg
      · exact .inr ⟨g, want, d, s, hg, hd, by rw [hgd g want d hg hd]; exact hs, hb⟩
    · cases x with
      | tmp t => exact (h t (List.mem_append_left _ (List.mem_filterMap.2 ⟨.tmp t, by simpa using hx, rfl⟩))).symm
      | _ => rfl
  · exact .inr ⟨⟨g, want, d, hg, hd, by rw [hgd g want d hg hd]; exact hs⟩, rfl, rfl⟩
theorem beq_nat {a b : Nat} (h : Nat.beq a b = true) : a = b := Nat.eq_of_beq_eq_true h
theorem hop_fc {P : Program} {m : Bool} {oi oj : Oper} (h : hop P m oi oj = true) : isFc oi.op = true := by
  unfold hop at h
  rw [Bool.and_eq_true, Bool.and_eq_true] at h
  exact h.2.1
theorem swap_eff {m s : Bool} {avi avj : Av} {oi oj : Oper} {ni nj : Nat} {v1 v2 : SV} (hm : ((may (cls C.P oi.op) (cls C.P oj.op) || hop C.P m oi oj) || slOk C.P s oi oj) = true) (hsl : s = true → isSl C.P oj.op = true → avj = some []) (hav : rwm C.P m s oi oj = true → ∃ S, avi = some S ∧ avj = some S ∧ (hop C.P m oi oj = true → ∀ q, ni ≤ q → q < ni + 16 → memN q S = true))
    (hn : ni + 16 ≤ nj ∨ nj + 16 ≤ ni) (h1 : Eff C avi ops oi ni tm hp v1 hp1) (h2 : Eff C avj ops oj nj tm hp1 v2 hp2) :
    ∃ hp1', Eff C avj ops oj nj tm hp v2 hp1' ∧ Eff C avi ops oi ni tm hp1' v1 hp2 := by
  rcases h1 with ⟨g1, w1⟩ | ⟨g1, rfl, rfl⟩
  case inr => exact ⟨hp2, h2, .inr ⟨g1, rfl, rfl⟩⟩
  rcases h2 with ⟨g2, w2⟩ | ⟨g2, rfl, rfl⟩
  case inr => exact ⟨hp, .inr ⟨g2, rfl, rfl⟩, .inl ⟨g1, w1⟩⟩
  by_cases hss : slOk C.P s oi oj = true
  · unfold slOk at hss
    rw [Bool.and_eq_true, Bool.and_eq_true, Bool.or_eq_true] at hss
    obtain ⟨h1, h2, h3⟩ := hss
    have := hsl h1 h2
    subst this
    obtain ⟨hf, n, E, hro, rfl, k⟩ := ways_sl h2 w2
    rcases h3 with h3 | h3
    · obtain ⟨hnew, _⟩ := ways_fc h3 w1
      have hboth : (∀ n, hp n ≠ .free → hp1 n ≠ .free) ∧ ∀ q E, hp q = .free → (q < ni ∨ ni + 16 ≤ q) → WaysE C avi oi.op (ev tm) ni (upd hp q E) v1 (upd hp1 q E) := by
        rcases isFc_cls (P := C.P) h3 with ci | ci
        · obtain ⟨hf1, E1, hE1, rfl, k1⟩ := ways2 ci w1
          refine ⟨(Keeps.fresh (av := none) hf1).lives, fun q E hq hqq => ?_⟩
          have hne : ni ≠ q := by omega
          rw [upd_comm hne]
          exact k1 _ _ (by rw [upd_other _ _ hne]; exact hf1)
        · exact ⟨(ways34 (.inl ci) w1).1.lives, (ways34 (.inl ci) w1).2⟩
      have hf0 : hp nj = .free := by
        cases hh : hp nj with
        | free => rfl
        | _ => exact absurd hf (hboth.1 nj (by rw [hh]; simp))
      have hn0 : hp n = hp1 n := by
        rcases hnew n with h4 | h4
        · exact h4.symm
        · cases hx : hp1 n <;> rw [hx] at h4 hro <;> first | exact h4.elim | (cases hro; done)
      exact ⟨upd hp nj E, .inl ⟨g2, k _ hf0 hn0⟩, .inl ⟨g1, hboth.2 nj E hf0 (by omega)⟩⟩
    · obtain ⟨rfl, k1⟩ := ways1 (beq_nat h3) w1
      exact ⟨_, .inl ⟨g2, w2⟩, .inl ⟨g1, k1 _ _ ((grows_upd hf E).sees _)⟩⟩
  replace hm : (may (cls C.P oi.op) (cls C.P oj.op) || hop C.P m oi oj) = true := by
    rw [Bool.or_eq_true] at hm
    exact hm.resolve_right hss
  rcases cls_all C.P oi.op with ci | ci | ci
  · obtain ⟨rfl, k⟩ := ways0 ci w1
    exact ⟨hp2, .inl ⟨g2, w2⟩, .inl ⟨g1, k _ _ _⟩⟩
  · obtain ⟨rfl, k⟩ := ways1 ci w1
    refine ⟨hp2, .inl ⟨g2, w2⟩, .inl ⟨g1, k _ _ ?_⟩⟩
    rcases cls_all C.P oj.op with cj | cj | cj | cj
    · obtain ⟨rfl, _⟩ := ways0 cj w2; exact fun _ _ _ => rfl
    · obtain ⟨rfl, _⟩ := ways1 cj w2; exact fun _ _ _ => rfl
    · obtain ⟨hf, E, hE, rfl, _⟩ := ways2 cj w2; exact (grows_upd hf E).sees _
    · have hns : (s && isSl C.P oj.op) = false := by
        cases hh : (s && isSl C.P oj.op) with
        | false => rfl
        | true =>
          rw [Bool.and_eq_true] at hh
          refine absurd ?_ hss
          unfold slOk
          rw [hh.1, hh.2, ci]
          simp [Nat.beq]
      obtain ⟨S, rfl, rfl, _⟩ := hav (by unfold rwm; rw [Bool.or_eq_true]; refine .inl ?_; rw [hns]; rcases cj with cj | cj <;> rw [ci, cj] <;> rfl)
      exact sees_keeps (ways34 cj w2).1
  · rcases cls_all C.P oj.op with cj | cj | cj | cj
    · obtain ⟨rfl, k⟩ := ways0 cj w2
      exact ⟨hp, .inl ⟨g2, k _ _ _⟩, .inl ⟨g1, w1⟩⟩
    · have hh : hop C.P m oi oj = true := by
        rw [Bool.or_eq_true] at hm
        rcases hm with hm | hm
        · exfalso
          rcases ci with ci | ci | ci <;> rw [ci, cj] at hm <;> cases hm
        · exact hm
      obtain ⟨S, rfl, rfl, hS⟩ := hav (by unfold rwm; rw [hh, Bool.or_true])
      obtain ⟨rfl, k⟩ := ways1 cj w2
      exact ⟨hp, .inl ⟨g2, k _ _ (sees_back (hop_fc hh) w1 (hS hh))⟩, .inl ⟨g1, w1⟩⟩
    · obtain ⟨hf, E, hE, rfl, k⟩ := ways2 cj w2
      have hboth : (∀ n, hp n ≠ .free → hp1 n ≠ .free) ∧ ∀ q E, hp q = .free → (q < ni ∨ ni + 16 ≤ q) → WaysE C avi oi.op (ev tm) ni (upd hp q E) v1 (upd hp1 q E) := by
        rcases ci with ci | ci
        · obtain ⟨hf1, E1, hE1, rfl, k1⟩ := ways2 ci w1
          refine ⟨(Keeps.fresh (av := none) hf1).lives, fun q E hq hqq => ?_⟩
          have hne : ni ≠ q := by omega
          rw [upd_comm hne]
          exact k1 _ _ (by rw [upd_other _ _ hne]; exact hf1)
        · exact ⟨(ways34 ci w1).1.lives, (ways34 ci w1).2⟩
      have hf0 : hp nj = .free := by
        cases hh : hp nj with
        | free => rfl
        | _ => exact absurd hf (hboth.1 nj (by rw [hh]; simp))
      exact ⟨upd hp nj E, .inl ⟨g2, k _ _ hf0⟩, .inl ⟨g1, hboth.2 nj E hf0 (by omega)⟩⟩
    · exfalso
      have hh : hop C.P m oi oj = false := by unfold hop; rcases cj with cj | cj <;> rw [cj] <;> simp [Nat.beq]
      rw [hh, Bool.or_false] at hm
      rcases ci with ci | ci | ci <;> rcases cj with cj | cj <;> rw [ci, cj] at hm <;> cases hm
theorem putT_comm {a b : Option Tmp} (h : ∀ d, a = some d → b ≠ some d) (x y : SV) : putT (putT tm a x) b y = putT (putT tm b y) a x := by
  cases a with
  | none => rfl
  | some d =>
    cases b with
    | none => rfl
    | some d' => exact upd_comm (fun e => h d rfl (by rw [e])) x y
theorem slOf_mem {s : Bool} {j : Nat} {oj : Oper} (hj : ops[j]? = some oj) (h1 : s = true) (h2 : isSl C.P oj.op = true) : memN j (slOf C.P s ops) = true := by
  subst h1
  refine memN_iff.2 (List.mem_filter.2 ⟨List.mem_range.2 (List.getElem?_eq_some_iff.1 hj).1, ?_⟩)
  rw [hj]
  exact h2
theorem slOf_out {s : Bool} {j : Nat} {oj : Oper} (hj : ops[j]? = some oj) (h : (s && isSl C.P oj.op) = false) : memN j (slOf C.P s ops) = false := by
  refine memN_false fun hm => ?_
  unfold slOf at hm
  cases s with
  | false => cases hm
  | true =>
    have := (List.mem_filter.1 hm).2
    rw [hj] at this
    simp only [] at this
    rw [this] at h
    cases h
theorem isSl_cls {P : Program} {op : Op} (h : isSl P op = true) : cls P op = 4 := by
  unfold isSl at h
  split at h
  · exact beq_nat h
  · cases h
theorem swap_step {m s : Bool} {av : Nat → Av} {lo S : List Nat} (hav : av = avf lo S (slOf C.P s ops)) {i j : Nat} {oi oj : Oper} {σ σ1 σ2 : St} (hfr : ∀ i oi, ops[i]? = some oi → isFc oi.op = true → memN i lo = true → m = true → ∀ q, σ.nx + 16 * i ≤ q → q < σ.nx + 16 * i + 16 → memN q S = true) (hi : ops[i]? = some oi) (hj : ops[j]? = some oj) (hne : i ≠ j) (hp : pairOk C.P m s ops lo i j oi oj = true)
    (h1 : Step C (av i) ops i σ σ1) (h2 : Step C (av j) ops j σ1 σ2) : ∃ σ1', Step C (av j) ops j σ σ1' ∧ Step C (av i) ops i σ1' σ2 := by
  unfold pairOk at hp
  rw [Bool.and_eq_true, Bool.and_eq_true] at hp
  obtain ⟨hm, hap, hrw⟩ := hp
  obtain ⟨a1, a2, a3⟩ := Oper.apart_spec hap
  obtain ⟨o, v1, hp1, ho, hd1, e1, rfl⟩ := step_eff.1 h1
  rw [hi] at ho
  injection ho with ho
  subst ho
  obtain ⟨o, v2, hp2, ho, hd2, e2, rfl⟩ := step_eff.1 h2
  rw [hj] at ho
  injection ho with ho
  subst ho
  have e2' : Eff C (av j) ops oj (σ.nx + 16 * j) σ.tm hp1 v2 hp2 := eff_tm (fun t ht => (putT_at fun d hd e => a1 d hd (by rw [← e]; exact ht)).symm) e2
  obtain ⟨hp1', f1, f2⟩ := swap_eff hm (fun q1 q2 => by rw [hav]; unfold avf; rw [slOf_mem hj q1 q2]; rfl) (fun hr => by
    rw [hr] at hrw
    have hrw : (memN i lo && memN j lo) = true := by simpa using hrw
    rw [Bool.and_eq_true] at hrw
    have hio : memN i (slOf C.P s ops) = false ∧ memN j (slOf C.P s ops) = false := by
      unfold rwm at hr
      rw [Bool.or_eq_true, Bool.and_eq_true] at hr
      have hcl : cls C.P oi.op ≠ 4 ∧ (s && isSl C.P oj.op) = false := by
        rcases hr with ⟨hr1, hr2⟩ | hr
        · refine ⟨fun e => ?_, by cases hh : (s && isSl C.P oj.op) with
            | false => rfl
            | true => rw [hh] at hr2; cases hr2⟩
          rw [e] at hr1
          cases hr1
        · unfold hop at hr
          rw [Bool.and_eq_true, Bool.and_eq_true] at hr
          refine ⟨fun e => ?_, ?_⟩
          · rcases isFc_cls (P := C.P) hr.2.1 with h5 | h5 <;> rw [h5] at e <;> cases e
          · cases hh : (s && isSl C.P oj.op) with
            | false => rfl
            | true =>
              rw [Bool.and_eq_true] at hh
              have h5 := isSl_cls hh.2
              have h6 := beq_nat hr.2.2
              rw [h5] at h6
              cases h6
      refine ⟨slOf_out hi ?_, slOf_out hj hcl.2⟩
      cases hh : (s && isSl C.P oi.op) with
      | false => rfl
      | true =>
        rw [Bool.and_eq_true] at hh
        exact absurd (isSl_cls hh.2) hcl.1
    exact ⟨S, by rw [hav]; unfold avf; rw [hio.1, hrw.1]; rfl, by rw [hav]; unfold avf; rw [hio.2, hrw.2]; rfl, fun hh => hfr i oi hi (hop_fc hh) hrw.1 (by unfold hop at hh; rw [Bool.and_eq_true] at hh; exact hh.1)⟩) (by omega) e1 e2'
  refine ⟨_, step_eff.2 ⟨oj, v2, hp1', hj, hd2, f1, rfl⟩, step_eff.2 ⟨oi, v1, hp2, hi, hd1, eff_tm (fun t ht => putT_at fun d hd e => a3 d hd (by rw [← e]; exact ht)) f2, ?_⟩⟩
  simp only [putT_comm a2]
theorem step_nx {i : Nat} {σ σ' : St} (h : Step C av ops i σ σ') : σ'.nx = σ.nx := by
  obtain ⟨_, _, _, _, _, _, rfl⟩ := step_eff.1 h
  rfl
/-- One that is ready goes ahead. -/
theorem steps_front {m s : Bool} {av : Nat → Av} {lo S : List Nat} (hav : av = avf lo S (slOf C.P s ops)) {j : Nat} {oj : Oper} (hj : ops[j]? = some oj) : ∀ (p : List Nat) (r : List Nat) (σ σ' : St),
    (∀ i oi, ops[i]? = some oi → isFc oi.op = true → memN i lo = true → m = true → ∀ q, σ.nx + 16 * i ≤ q → q < σ.nx + 16 * i + 16 → memN q S = true) → (∀ i ∈ p, i ≠ j ∧ ∃ oi, ops[i]? = some oi ∧ pairOk C.P m s ops lo i j oi oj = true) → Steps' C av ops (p ++ j :: r) σ σ' → Steps' C av ops (j :: (p ++ r)) σ σ'
  | [], r, σ, σ', _, _, h => h
  | i :: p, r, σ, σ', hfr, hp, h => by
    cases h with
    | cons h1 h2 =>
      have h3 := steps_front hav hj p r _ σ' (by rw [step_nx h1]; exact hfr) (fun k hk => hp k (List.mem_cons_of_mem _ hk)) h2
      cases h3 with
      | cons h4 h5 =>
        obtain ⟨hne, oi, hi, hpp⟩ := hp i List.mem_cons_self
        obtain ⟨σ1', h6, h7⟩ := swap_step hav hfr hi hj hne hpp h1 h4
        exact .cons h6 (.cons h7 h5)
end
/-! ### every order -/
section
variable {ops : List Oper} {P : Program} {m s : Bool} {lo : List Nat}
def PairR (P : Program) (m s : Bool) (ops : List Oper) (lo : List Nat) (i j : Nat) : Prop :=
  i ≠ j ∧ ∃ oi oj, ops[i]? = some oi ∧ ops[j]? = some oj ∧ j ∉ deps oi ∧ (i ∈ deps oj ∨ pairOk P m s ops lo i j oi oj = true ∨ reach ops 16 i j = true)
theorem okPairs_pw : ∀ {l : List Nat}, okPairs P m s ops lo l = true → l.Pairwise (PairR P m s ops lo)
  | [], _ => .nil
  | i :: r, h => by
    unfold okPairs at h
    rw [Bool.and_eq_true, Bool.and_eq_true] at h
    obtain ⟨h1, h2, h3⟩ := h
    refine .cons (fun j hj => ?_) (okPairs_pw h3)
    have hir : i ∉ r := fun hm => by rw [memN_iff.2 hm] at h2; cases h2
    split at h1
    · rename_i oi hi
      have h4 := List.all_eq_true.1 h1 j hj
      split at h4
      · rename_i oj hoj
        rw [Bool.and_eq_true, Bool.or_eq_true, Bool.or_eq_true] at h4
        refine ⟨fun e => hir (by rw [e]; exact hj), oi, oj, hi, hoj, fun hm => ?_, h4.2.imp memN_iff.1 id⟩
        have := h4.1
        rw [memN_iff.2 hm] at this
        cases this
      · cases h4
    · cases h1
theorem deps_mem {o : Oper} {e : Edge} (h : e ∈ o.after) (hb : Region.binds .any e = true) : e.on ∈ deps o := by
  unfold deps
  refine List.mem_filterMap.2 ⟨e, by simpa using h, ?_⟩
  unfold Region.binds at hb
  cases hg : e.ground <;> rw [hg] at hb <;> first | rfl | cases hb
theorem deps_inv {o : Oper} {d : Nat} (h : d ∈ deps o) : ∃ e, e ∈ o.after ∧ Region.binds .any e = true ∧ e.on = d := by
  unfold deps at h
  obtain ⟨e, h1, h2⟩ := List.mem_filterMap.1 h
  refine ⟨e, by simpa using h1, ?_, ?_⟩
  · unfold Region.binds
    cases hg : e.ground <;> rw [hg] at h2 <;> first | rfl | cases h2
  · cases hg : e.ground <;> rw [hg] at h2 <;> first | (injection h2) | cases h2
structure Inv (P : Program) (m s : Bool) (ops : List Oper) (lo : List Nat) (listed : Array Bool) (l : List Nat) : Prop where
  size : listed.size = ops.length
  left : ∀ j, listed.getD j true = false ↔ j ∈ l
  pw : l.Pairwise (PairR P m s ops lo)
  deps : ∀ i, i ∈ l → ∃ o, ops[i]? = some o ∧ ∀ d ∈ deps o, d < ops.length ∧ d ≠ i
  down : ∀ j o, ops[j]? = some o → listed.getD j true = true → ∀ d ∈ Go.Sx.deps o, listed.getD d true = true
theorem listed_of {listed : Array Bool} {l : List Nat} (h : Inv P m s ops lo listed l) {d : Nat} (hd : d < ops.length) (hl : d ∉ l) : listed.getD d false = true := by
  have h1 : listed.getD d true = true := by
    cases hh : listed.getD d true with
    | true => rfl
    | false => exact absurd ((h.left d).1 hh) hl
  have h2 : d < listed.size := by rw [h.size]; exact hd
  simpa [Array.getD, h2] using h1
theorem notl {listed : Array Bool} {l : List Nat} (h : Inv P m s ops lo listed l) {d : Nat} (hd : listed.getD d false = true) : d ∉ l := fun hm => by
  have := (h.left d).2 hm
  by_cases h2 : d < listed.size
  · simp [Array.getD, h2] at hd this
    rw [hd] at this
    cases this
  · simp [Array.getD, h2] at hd
theorem reach_out {listed : Array Bool} {l : List Nat} (h : Inv P m s ops lo listed l) : ∀ (f i j : Nat) (o : Oper), ops[j]? = some o → (∀ d ∈ deps o, listed.getD d true = true) → reach ops f i j = true → listed.getD i true = true
  | 0, i, j, o, _, _, hr => by cases hr
  | f + 1, i, j, o, ho, hd, hr => by
    unfold reach at hr
    rw [ho] at hr
    obtain ⟨k, hk, hkk⟩ := List.any_eq_true.1 hr
    rw [Bool.or_eq_true] at hkk
    rcases hkk with hkk | hkk
    · rw [← beq_nat hkk]; exact hd k hk
    · rw [Bool.and_eq_true] at hkk
      replace hkk := hkk.2
      cases f with
      | zero => cases hkk
      | succ f =>
        cases hk2 : ops[k]? with
        | none => unfold reach at hkk; rw [hk2] at hkk; cases hkk
        | some o2 => exact reach_out h (f + 1) i k o2 hk2 (fun d hd2 => h.down k o2 hk2 (hd k hk) d hd2) hkk
theorem any_orders {A : Cx} {C : Ctx} {av : Nat → Av} {S : List Nat} (hav : av = avf lo S (slOf C.P s ops)) {σ' : St} {Q : Exit → Act → World → Prop} (hP : C.P = P) (hG : ∀ f con, C.G f = some con → CtrOK C.P f con) (hN : C.N = A.N) (hQ : ∀ a w, Holds A σ' a w → Q .normal a w) :
    ∀ (n : Nat) (l : List Nat) (listed : Array Bool) (σ : St) (a : Act) (w : World), (∀ i oi, ops[i]? = some oi → isFc oi.op = true → memN i lo = true → m = true → ∀ q, σ.nx + 16 * i ≤ q → q < σ.nx + 16 * i + 16 → memN q S = true) → l.length = n → Inv P m s ops lo listed l → Steps' C av ops l σ σ' → Holds A σ a w → wpAny C.P .any ops.toArray Q n listed a w
  | 0, l, listed, σ, a, w, hfr, hl, hI, hs, hH => by
    match l, hl with
    | [], _ =>
      refine ⟨?_, ?_⟩
      · cases hr : Region.ready .any ops.toArray listed with
        | nil => rfl
        | cons j _ =>
          have hj : j ∈ Region.ready .any ops.toArray listed := by rw [hr]; exact List.mem_cons_self
          have := (hI.left j).1 (mem_ready.1 hj).1
          cases this
      · cases hs
        exact hQ a w hH
  | n + 1, l, listed, σ, a, w, hfr, hl, hI, hs, hH => by
    refine ⟨fun hr => ?_, fun i hi => ?_⟩
    · exfalso
      match l, hl with
      | i :: r, _ =>
        have : i ∈ Region.ready .any ops.toArray listed := by
          refine mem_ready.2 ⟨(hI.left i).2 List.mem_cons_self, ?_⟩
          obtain ⟨o, ho, hd⟩ := hI.deps i List.mem_cons_self
          refine ⟨o, by simpa using ho, fun e he hb => ?_⟩
          have hm := deps_mem he hb
          obtain ⟨h1, h2⟩ := hd _ hm
          refine listed_of hI h1 fun hml => ?_
          rcases List.mem_cons.1 hml with h3 | h3
          · exact h2 h3
          · obtain ⟨_, oi, oj, h4, _, h5, _⟩ := (List.pairwise_cons.1 hI.pw).1 _ h3
            rw [ho] at h4
            injection h4 with h4
            subst h4
            exact h5 hm
        rw [hr] at this
        cases this
    · obtain ⟨hl0, o, ho, hall⟩ := mem_ready.1 hi
      have ho : ops[i]? = some o := by simpa using ho
      have hil := (hI.left i).1 hl0
      obtain ⟨p, r, rfl⟩ := List.append_of_mem hil
      have hdl : ∀ d ∈ deps o, listed.getD d true = true := fun d hd => by
        obtain ⟨e, h1, h2, rfl⟩ := deps_inv hd
        have := hall e h1 h2
        by_cases h3 : e.on < listed.size
        · simp [Array.getD, h3] at this ⊢; exact this
        · simp [Array.getD, h3]
      have hdn : ∀ d ∈ deps o, d ∉ p ++ i :: r := fun d hd => by
        obtain ⟨e, h1, h2, rfl⟩ := deps_inv hd
        exact notl hI (hall e h1 h2)
      have hpw := List.pairwise_append.1 hI.pw
      have hfront := steps_front (C := C) hav ho p r σ σ' hfr (fun k hk => by
        obtain ⟨hne, oi, oj, h1, h2, h3, h4⟩ := hpw.2.2 k hk i List.mem_cons_self
        rw [ho] at h2
        injection h2 with h2
        subst h2
        refine ⟨hne, oi, h1, ?_⟩
        rcases h4 with h4 | h4 | h4
        · exact absurd (List.mem_append_left _ hk) (hdn k h4)
        · rw [hP]; exact h4
        · have h5 := reach_out hI 16 k i o ho hdl h4
          have h6 := (hI.left k).2 (List.mem_append_left _ hk)
          rw [h5] at h6
          cases h6) hs
      cases hfront with
      | cons h1 h2 =>
        refine wpOp_mono (fun a' w' h' => ?_) (step_sound h1 hH hG hN)
        have hnd : i ∉ p ++ r := fun hm => by
          rcases List.mem_append.1 hm with hm | hm
          · exact (hpw.2.2 i hm i List.mem_cons_self).1 rfl
          · exact ((List.pairwise_cons.1 hpw.2.1).1 i hm).1 rfl
        refine any_orders hav hP hG hN hQ n (p ++ r) _ _ a' w' (by rw [step_nx h1]; exact hfr) (by simp at hl ⊢; omega) ?_ h2 h'
        have hil : i < listed.size := by
          rw [hI.size]
          exact (List.getElem?_eq_some_iff.1 ho).1
        have hset : ∀ j, (listed.setIfInBounds i true).getD j true = true ↔ j = i ∨ listed.getD j true = true := by
          intro j
          by_cases h : j = i
          · subst h; simp [hil]
          · rw [getD_set_ne true (fun e => h e.symm)]; simp [h]
        refine ⟨by simp [hI.size], fun j => ?_, ?_, fun k hk => hI.deps k ?_, fun j oj hoj hlj d hd => ?_⟩
        · have h3 := hset j
          have h4 := hI.left j
          constructor
          · intro hf
            have h5 : ¬ (j = i ∨ listed.getD j true = true) := fun hh => by rw [h3.2 hh] at hf; cases hf
            have h6 : j ∈ p ++ i :: r := h4.1 (by cases hh : listed.getD j true with
              | false => rfl
              | true => exact absurd (.inr hh) h5)
            rcases List.mem_append.1 h6 with h6 | h6
            · exact List.mem_append_left _ h6
            · rcases List.mem_cons.1 h6 with h6 | h6
              · exact absurd (.inl h6) h5
              · exact List.mem_append_right _ h6
          · intro hm
            cases hh : (listed.setIfInBounds i true).getD j true with
            | false => rfl
            | true =>
              rcases h3.1 hh with h5 | h5
              · subst h5; exact absurd hm hnd
              · have : listed.getD j true = false := h4.2 (by
                  rcases List.mem_append.1 hm with hm | hm
                  · exact List.mem_append_left _ hm
                  · exact List.mem_append_right _ (List.mem_cons_of_mem _ hm))
                rw [h5] at this
                cases this
        · refine List.Pairwise.sublist ?_ hI.pw
          exact List.Sublist.append_left (List.sublist_cons_self i r) p
        · rcases List.mem_append.1 hk with hk | hk
          · exact List.mem_append_left _ hk
          · exact List.mem_append_right _ (List.mem_cons_of_mem _ hk)
        · rcases (hset j).1 hlj with h5 | h5
          · subst h5
            rw [ho] at hoj
            injection hoj with hoj
            subst hoj
            exact (hset d).2 (.inr (hdl d hd))
          · exact (hset d).2 (.inr (hI.down j oj hoj h5 d hd))
theorem holds_drawn {A : Cx} {σ : St} {a : Act} {w : World} (h : Holds A σ a w) (d : Nat) : Holds A σ a { w with drawn := d } := by
  obtain ⟨ν, h⟩ := h
  exact ⟨ν, h.tm, h.mem.drawn d, h.ext, h.defers, h.size⟩
end
theorem fresh8_mem {n q : Nat} (h1 : n ≤ q) (h2 : q < n + 16) : q ∈ fresh8 n := by
  unfold fresh8
  simp only [List.mem_cons, List.not_mem_nil, or_false]
  omega
theorem av_fresh {C : Ctx} {m : Bool} {ops : List Oper} {σ : St} {lo : List Nat} {i : Nat} {oi : Oper} (hi : ops[i]? = some oi) (hf : isFc oi.op = true) (hl : memN i lo = true) (hm : m = true) : ∀ q, σ.nx + 16 * i ≤ q → q < σ.nx + 16 * i + 16 → memN q (avOf C m ops σ lo) = true := by
  intro q h1 h2
  refine memN_iff.2 ?_
  unfold avOf
  refine List.mem_append_right _ ?_
  rw [hm, cnd_true]
  refine List.mem_flatMap.2 ⟨i, memN_iff.1 hl, ?_⟩
  rw [hi]
  simp only [Option.map_some]
  rw [hf, cnd_true]
  exact fresh8_mem h1 h2
theorem drawK_sound {R : Type} {F : Fix R} {A : Cx} {m s : Bool} (hm : F.P.follows .mixedOrders = true) (hG : ∀ f con, F.G f = some con → CtrOK F.P f con) (hN : F.N = A.N) {k id : Nat} {ops : Array Oper} {l : List Nat} {σ : St} {K : St → Option R} {alt : Option R} {r : R} {a : Act} {w : World} {Q : Exit → Act → World → Prop}
    (h : drawK (F.C k) m s ops.toList l σ K alt = some r) (hH : Holds A σ a w) (hQ : ∀ σ' a w, K σ' = some r → Holds A σ' a w → Q .normal a w) : (Code.region id ops true).wp F.P Q a w ∨ alt = some r := by
  unfold drawK at h
  simp only [] at h
  generalize hlo : looseOf (F.C k).P m s ops.toList l = lo at h
  cases hc : ((List.range ops.toList.length).all (memN · l) && (okDeps ops.toList l && (Nat.beq l.length ops.toList.length && okPairs (F.C k).P m s ops.toList lo l))) with
  | false => rw [hc] at h; exact .inr h
  | true =>
    rw [hc] at h
    simp only [cnd_true] at h
    rw [Bool.and_eq_true, Bool.and_eq_true, Bool.and_eq_true] at hc
    obtain ⟨h1, h2, h3, h4⟩ := hc
    obtain ⟨σ', h5, h6⟩ := runK_inv h (KnOK.nil σ)
    refine .inl (wp_region_any hm ?_)
    have hlen : l.length = ops.size := by simpa using beq_nat h3
    have hdeps : ∀ i, i ∈ l → ∃ o, ops.toList[i]? = some o ∧ ∀ d ∈ deps o, d < ops.toList.length ∧ d ≠ i := fun i hi => by
      have h7 := List.all_eq_true.1 h2 i hi
      split at h7
      · rename_i o ho
        refine ⟨o, ho, fun d hd => ?_⟩
        have h8 := List.all_eq_true.1 h7 d hd
        rw [Bool.and_eq_true] at h8
        refine ⟨Nat.le_of_ble_eq_true h8.1, fun e => ?_⟩
        have h9 := h8.2
        rw [e, Nat.beq_refl] at h9
        cases h9
      · cases h7
    refine any_orders (ops := ops.toList) (C := F.C k) (P := (F.C k).P) (A := A) (m := m) (s := s) (lo := lo) (σ' := σ') rfl rfl hG hN (fun a w hh => hQ _ a w h6 hh) ops.size l _ σ a _ (fun i oi hi hfc hml hm1 => av_fresh hi hfc hml hm1) hlen ⟨by simp, fun j => ?_, okPairs_pw h4, hdeps, fun j o ho hl => ?_⟩ h5 (holds_drawn hH _)
    · by_cases hj : j < ops.size
      · have : j ∈ l := memN_iff.1 (List.all_eq_true.1 h1 j (by simpa using hj))
        simp [hj, this]
      · have : j ∉ l := fun hm2 => by
          obtain ⟨o, ho, _⟩ := hdeps j hm2
          exact hj (by simpa using (List.getElem?_eq_some_iff.1 ho).1)
        simp [hj, this]
    · have hj : j < ops.size := by simpa using (List.getElem?_eq_some_iff.1 ho).1
      simp [hj] at hl
theorem draw_sound {R : Type} {F : Fix R} {A : Cx} (hm : F.P.follows .mixedOrders = true) (hG : ∀ f con, F.G f = some con → CtrOK F.P f con) (hN : F.N = A.N) : DrawOK F A := by
  intro k id ops σ K r a w Q h hH hQ
  unfold regK at h
  simp only [] at h
  have hQ' : ∀ σ' a w, K ⟨σ'.tm, σ'.hp, σ'.nx + 16 * ops.size⟩ = some r → Holds A σ' a w → Q .normal a w := fun σ' a w h1 h2 => hQ _ a w h1 (holds_nx h2)
  rcases drawK_sound (id := id) hm hG hN h hH hQ' with h1 | h1
  · exact h1
  · rcases drawK_sound (id := id) hm hG hN h1 hH hQ' with h2 | h2
    · exact h2
    · rcases drawK_sound (id := id) hm hG hN h2 hH hQ' with h3 | h3
      · exact h3
      · rcases drawK_sound (id := id) hm hG hN h3 hH hQ' with h4 | h4
        · exact h4
        · rcases drawK_sound (id := id) hm hG hN h4 hH hQ' with h5 | h5
          · exact h5
          · rcases drawK_sound (id := id) hm hG hN h5 hH hQ' with h6 | h6
            · exact h6
            · cases h6
end Go.Sx
/- Labels: what is kept of a state where code comes by again. -/
set_option linter.unusedVariables false
set_option linter.unusedSimpArgs false
namespace Go.Sx
inductive CP where
  | int (k : IntKind)
  | bool
  | str
  | ptr (n off : Nat)
  | sl (n : Nat)
  | nilp
  | any
def CP.T (X : Type) : CP → Type
  | .int _ => Int × X
  | .bool => Bool × X
  | .str => ByteArray × X
  | _ => X
def CPs (X : Type) : List CP → Type
  | [] => X
  | p :: r => p.T (CPs X r)
/-- Which name a label's name stands for; none is a slice that is nil. -/
abbrev Rn := List (Nat × Option Nat)
def look : Rn → Nat → Option (Option Nat)
  | [], _ => none
  | (m, q) :: r, n => cnd (Nat.beq m n) (some q) (look r n)
def sameO : Option Nat → Option Nat → Bool
  | none, none => true
  | some a, some b => Nat.beq a b
  | _, _ => false
def asn (ρ : Rn) (n : Nat) (q : Option Nat) : Option Rn :=
  match look ρ n with
  | none => some ((n, q) :: ρ)
  | some q' => cnd (sameO q q') (some ρ) none
def asnC (ρ : Rn) : CP → SC → Option Rn
  | .ptr n off, .ptr q off' => cnd (Nat.beq off off') (asn ρ n (some q)) none
  | .sl n, .sl q => asn ρ n (some q)
  | .sl n, .nils => asn ρ n none
  | .nilp, .nilp => some ρ
  | .any, _ => some ρ
  | .int _, _ => some ρ
  | .bool, _ => some ρ
  | .str, _ => some ρ
  | _, _ => none
def putD {X : Type} (x : X) : (p : CP) → SC → Option (p.T X)
  | .int k, .int k' n => cnd (keq k k') (some ((n : Int), x)) none
  | .bool, .bool s => some (s.b, x)
  | .str, .str s => some (s, x)
  | .ptr _ _, _ => some x
  | .sl _, _ => some x
  | .nilp, _ => some x
  | .any, _ => some x
  | _, _ => none
def getD {X : Type} : (p : CP) → p.T X → SC × X
  | .int k, (x : Int × X) => (.int k x.1, x.2)
  | .bool, (x : Bool × X) => (.bool (.v x.1), x.2)
  | .str, (x : ByteArray × X) => (.str x.1, x.2)
  | .ptr n off, x => (.ptr n off, x)
  | .sl n, x => (.sl n, x)
  | .nilp, x => (.nilp, x)
  | .any, x => (.any, x)
def absC {X : Type} (K : Rn → Option X) : (ps : List CP) → List SC → Rn → Option (CPs X ps)
  | [], [], ρ => K ρ
  | p :: r, c :: cs, ρ => match asnC ρ p c with
    | some ρ' => match absC K r cs ρ' with
      | some t => putD t p c
      | none => none
    | none => none
  | _, _, _ => none
def conC {X : Type} : (ps : List CP) → CPs X ps → List SC × X
  | [], x => ([], x)
  | p :: r, x => match getD p x with
    | (c, y) => match conC r y with
      | (cs, z) => (c :: cs, z)
inductive EP where
  | dead
  | box (ps : List CP) (t : TypeId)
  | row (ty : Ty) (e : TypeId)
  | ro (ty : Ty) (e : TypeId)
  | nro (nt : NT) (e : TypeId)
  | nrow (nt : NT) (e : TypeId)
  | gh
def EP.T (X : Type) : EP → Type
  | .dead => X
  | .box ps _ => CPs X ps
  | .row ty _ => List ty.T × X
  | .ro ty _ => List ty.T × X
  | .nro nt _ => List nt.T × X
  | .nrow nt _ => List nt.T × X
  | .gh => X
def EPs (X : Type) : List EP → Type
  | [] => X
  | e :: r => e.T (EPs X r)
def absE {X : Type} (hp : Hp) (K : Rn → Option X) : (es : List EP) → Nat → Rn → Option (EPs X es)
  | [], _, ρ => K ρ
  | .dead :: r, n, ρ => absE hp K r (n + 1) ρ
  | .box ps t :: r, n, ρ => match look ρ n with
    | some (some q) => match hp q with
      | .box cs t' => cnd (Nat.beq t t') (absC (absE hp K r (n + 1)) ps cs ρ) none
      | _ => none
    | _ => none
  | .row ty e :: r, n, ρ => match look ρ n with
    | some (some q) => match hp q with
      | .row ty' l e' => match ty'.dec ty with
        | some ⟨h⟩ => cnd (Nat.beq e e') (match absE hp K r (n + 1) ρ with
          | some t => some ((h ▸ l : List ty.T), t)
          | none => none) none
        | none => none
      | _ => none
    | some none => match absE hp K r (n + 1) ρ with
      | some t => some (([] : List ty.T), t)
      | none => none
    | none => none
  | .ro ty e :: r, n, ρ => match look ρ n with
    | some (some q) => match hp q with
      | .ro ty' l e' => match ty'.dec ty with
        | some ⟨h⟩ => match absE hp K r (n + 1) ρ with
          | some t => some ((h ▸ l : List ty.T), t)
          | none => none
        | none => none
      | _ => none
    | some none => match absE hp K r (n + 1) ρ with
      | some t => some (([] : List ty.T), t)
      | none => none
    | none => none
  | .nro ty e :: r, n, ρ => match look ρ n, look ρ (n + 1) with
    | some (some q), some (some g) => match hp q with
      | .nro ty' l e' => match ty'.dec ty with
        | some ⟨h⟩ => cnd (Nat.beq g (q + 1)) (match absE hp K r (n + 1) ρ with
          | some t => some ((h ▸ l : List ty.T), t)
          | none => none) none
        | none => none
      | _ => none
    | _, _ => none
  | .nrow ty e :: r, n, ρ => match look ρ n with
    | some (some q) => match hp q with
      | .nrow ty' l e' => match ty'.dec ty with
        | some ⟨h⟩ => cnd (Nat.beq e e') (match absE hp K r (n + 1) ρ with
          | some t => some ((h ▸ l : List ty.T), t)
          | none => none) none
        | none => none
      | _ => none
    | _ => none
  | .gh :: r, n, ρ => absE hp K r (n + 1) ρ
def conE {X : Type} : (es : List EP) → EPs X es → List Ent × X
  | [], x => ([], x)
  | .dead :: r, x => match conE r x with
    | (l, z) => (.dead :: l, z)
  | .box ps t :: r, x => match conC ps x with
    | (cs, y) => match conE r y with
      | (l, z) => (.box cs t :: l, z)
  | .row ty e :: r, (x : List ty.T × EPs X r) => match conE r x.2 with
    | (l, z) => (.row ty x.1 e :: l, z)
  | .ro ty e :: r, (x : List ty.T × EPs X r) => match conE r x.2 with
    | (l, z) => (.ro ty x.1 e :: l, z)
  | .nro ty e :: r, (x : List ty.T × EPs X r) => match conE r x.2 with
    | (l, z) => (.nro ty x.1 e :: l, z)
  | .nrow ty e :: r, (x : List ty.T × EPs X r) => match conE r x.2 with
    | (l, z) => (.nrow ty x.1 e :: l, z)
  | .gh :: r, x => match conE r x with
    | (l, z) => (.gh :: l, z)
abbrev TP := List (Nat × Bool × List CP)
def TPs (X : Type) : TP → Type
  | [] => X
  | (_, _, ps) :: r => CPs (TPs X r) ps
def absT {X : Type} (tm : Nat → SV) (K : Rn → Option X) : (ts : TP) → Rn → Option (TPs X ts)
  | [], ρ => K ρ
  | (t, g, ps) :: r, ρ => match tm t with
    | .a g' cs => cnd (beqB g g') (absC (absT tm K r) ps cs ρ) none
    | _ => none
def conT {X : Type} : (ts : TP) → TPs X ts → List (Nat × SV) × X
  | [], x => ([], x)
  | (t, g, ps) :: r, x => match conC ps x with
    | (cs, y) => match conT r y with
      | (l, z) => ((t, .a g cs) :: l, z)
structure LP where
  ts : TP
  es : List EP
  ini : Nat
def wrP : Option EP → Bool
  | some (.box _ _) => true
  | some (.row _ _) => true
  | some (.nrow _ _) => true
  | _ => false
def lvP : Option EP → Bool
  | some .dead => false
  | some _ => true
  | none => false
/-- No two names for what is written. -/
def finR (es : List EP) (ρ : Rn) : Bool :=
  ρ.all fun p => Nat.blt p.1 es.length && (!(wrP es[p.1]?) || ρ.all fun p' => Nat.beq p'.1 p.1 || (!(lvP es[p'.1]?) || (match p.2 with
    | some q => !(sameO (some q) p'.2)
    | none => true)))
def ini0 : Nat → Rn
  | 0 => []
  | n + 1 => (n, some n) :: ini0 n
def LP.T (L : LP) : Type := TPs (EPs Unit L.es) L.ts
def LP.abs (L : LP) (σ : St) : Option L.T :=
  absT σ.tm (fun ρ => absE σ.hp (fun ρ => cnd (finR L.es ρ) (some ()) none) L.es 0 ρ) L.ts (ini0 L.ini)
def tmL : List (Nat × SV) → Nat → SV
  | [], _ => .any
  | (t, v) :: r, n => cnd (Nat.beq t n) v (tmL r n)
def hpL (es : List Ent) (n : Nat) : Ent :=
  match es[n]? with
  | some e => e
  | none => .free
def LP.con (L : LP) (s : L.T) : St :=
  match conT (X := EPs Unit L.es) L.ts s with
  | (ts, y) => match conE (X := Unit) L.es y with
    | (es, _) => ⟨tmL ts, hpL es, es.length⟩
end Go.Sx
/- Labels: what is kept is enough. -/
set_option linter.unusedVariables false
set_option linter.unusedSimpArgs false
namespace Go.Sx
def Sub (ρ ρ' : Rn) : Prop := ∀ n x, look ρ n = some x → look ρ' n = some x
theorem Sub.refl (ρ : Rn) : Sub ρ ρ := fun _ _ h => h
theorem Sub.trans {a b c : Rn} (h : Sub a b) (k : Sub b c) : Sub a c := fun n x hx => k n x (h n x hx)
theorem sameO_eq {a b : Option Nat} (h : sameO a b = true) : a = b := by
  cases a <;> cases b <;> first | rfl | cases h | (rw [beq_nat h])
theorem asn_spec {ρ ρ' : Rn} {n : Nat} {q : Option Nat} (h : asn ρ n q = some ρ') : Sub ρ ρ' ∧ look ρ' n = some q := by
  unfold asn at h
  split at h
  · rename_i hl
    injection h with h
    subst h
    refine ⟨fun m x hm => ?_, by simp only [look]; rw [Nat.beq_refl]; rfl⟩
    simp only [look]
    have : n ≠ m := fun e => by subst e; rw [hl] at hm; cases hm
    rw [beq_ne this]
    exact hm
  · rename_i q' hl
    cases hs : sameO q q' with
    | false => rw [hs] at h; cases h
    | true =>
      rw [hs] at h
      injection h with h
      subst h
      exact ⟨.refl _, by rw [sameO_eq hs]; exact hl⟩
def MC (ρ : Rn) (c : SC) : SC → Prop
  | .int k n => c = .int k n
  | .bool s => ∃ s', c = .bool s' ∧ s'.b = s.b
  | .str s => c = .str s
  | .ptr n off => ∃ q, c = .ptr q off ∧ look ρ n = some (some q)
  | .sl n => (∃ q, c = .sl q ∧ look ρ n = some (some q)) ∨ (c = .nils ∧ look ρ n = some none)
  | .nilp => c = .nilp
  | .any => True
  | _ => False
def MCs (ρ : Rn) : List SC → List SC → Prop
  | [], [] => True
  | c :: cs, d :: ds => MC ρ c d ∧ MCs ρ cs ds
  | _, _ => False
theorem cell_spec {X : Type} {ρ ρ' : Rn} {p : CP} {c : SC} {x : X} {s : p.T X} (h1 : asnC ρ p c = some ρ') (h2 : putD x p c = some s) : Sub ρ ρ' ∧ (getD p s).2 = x ∧ ∀ ρF, Sub ρ' ρF → MC ρF c (getD p s).1 := by
  cases p with
  | int k =>
    cases c with
    | int k' n =>
      have h2 : (cnd (keq k k') (some (n, x)) none : Option (Int × X)) = some s := h2
      cases hk : keq k k' with
      | false => rw [hk] at h2; exact no_some h2
      | true =>
        rw [hk] at h2
        have h3 : some (n, x) = some s := h2
        injection h3 with h3
        subst h3
        have := keq_eq hk
        subst this
        have h1 : some ρ = some ρ' := h1
        injection h1 with h1
        subst h1
        exact ⟨.refl _, rfl, fun _ _ => rfl⟩
    | _ => exact no_some (α := Int × X) h2
  | bool =>
    cases c with
    | bool s' =>
      have h3 : some (s'.b, x) = some s := h2
      injection h3 with h3
      subst h3
      have h1 : some ρ = some ρ' := h1
      injection h1 with h1
      subst h1
      exact ⟨.refl _, rfl, fun _ _ => ⟨s', rfl, rfl⟩⟩
    | _ => exact no_some (α := Bool × X) h2
  | str =>
    cases c with
    | str s' =>
      have h3 : some (s', x) = some s := h2
      injection h3 with h3
      subst h3
      have h1 : some ρ = some ρ' := h1
      injection h1 with h1
      subst h1
      exact ⟨.refl _, rfl, fun _ _ => rfl⟩
    | _ => exact no_some (α := ByteArray × X) h2
  | ptr n off =>
    cases c with
    | ptr q off' =>
      have h2 : some x = some s := h2
      injection h2 with h2
      subst h2
      have h5 : cnd (Nat.beq off off') (asn ρ n (some q)) none = some ρ' := h1
      clear h1
      cases hb : Nat.beq off off' with
      | false => rw [hb] at h5; exact no_some h5
      | true =>
        rw [hb] at h5
        have := beq_nat hb
        subst this
        obtain ⟨h3, h4⟩ := asn_spec (show asn ρ n (some q) = some ρ' from h5)
        exact ⟨h3, rfl, fun ρF hF => ⟨q, rfl, hF _ _ h4⟩⟩
    | _ => exact no_some h1
  | sl n =>
    have h2 : some x = some s := h2
    injection h2 with h2
    subst h2
    cases c with
    | sl q =>
      obtain ⟨h3, h4⟩ := asn_spec (show asn ρ n (some q) = some ρ' from h1)
      exact ⟨h3, rfl, fun ρF hF => .inl ⟨q, rfl, hF _ _ h4⟩⟩
    | nils =>
      obtain ⟨h3, h4⟩ := asn_spec (show asn ρ n none = some ρ' from h1)
      exact ⟨h3, rfl, fun ρF hF => .inr ⟨rfl, hF _ _ h4⟩⟩
    | _ => exact no_some h1
  | nilp =>
    have h2 : some x = some s := h2
    injection h2 with h2
    subst h2
    cases c with
    | nilp =>
      have h1 : some ρ = some ρ' := h1
      injection h1 with h1
      subst h1
      exact ⟨.refl _, rfl, fun _ _ => rfl⟩
    | _ => exact no_some h1
  | any =>
    have h2 : some x = some s := h2
    injection h2 with h2
    subst h2
    have h1 : some ρ = some ρ' := by cases c <;> exact h1
    injection h1 with h1
    subst h1
    exact ⟨.refl _, rfl, fun _ _ => trivial⟩
theorem conC_cons {X : Type} (p : CP) (r : List CP) (x : p.T (CPs X r)) : conC (X := X) (p :: r) x = ((getD p x).1 :: (conC r (getD p x).2).1, (conC r (getD p x).2).2) := rfl
theorem absC_spec {X : Type} {K : Rn → Option X} : ∀ (ps : List CP) (cs : List SC) (ρ : Rn) (s : CPs X ps), absC K ps cs ρ = some s → ∃ ρ', Sub ρ ρ' ∧ K ρ' = some (conC ps s).2 ∧ ∀ ρF, Sub ρ' ρF → MCs ρF cs (conC ps s).1
  | [], [], ρ, s, h => ⟨ρ, .refl _, h, fun _ _ => trivial⟩
  | [], _ :: _, ρ, s, h => no_some (α := X) h
  | p :: r, [], ρ, s, h => no_some (α := p.T (CPs X r)) h
  | p :: r, c :: cs, ρ, s, h => by
    have h : (match asnC ρ p c with
      | some ρ' => match absC K r cs ρ' with
        | some t => putD t p c
        | none => none
      | none => none) = some s := h
    split at h
    · rename_i ρ1 h1
      split at h
      · rename_i t h2
        obtain ⟨c1, c2, c3⟩ := cell_spec h1 h
        obtain ⟨ρ2, d1, d2, d3⟩ := absC_spec r cs ρ1 t h2
        refine ⟨ρ2, c1.trans d1, ?_, fun ρF hF => ?_⟩
        · show K ρ2 = some (conC r (getD p s).2).2
          rw [c2]; exact d2
        · refine ⟨c3 ρF (d1.trans hF), ?_⟩
          show MCs ρF cs (conC r (getD p s).2).1
          rw [c2]; exact d3 ρF hF
      · exact no_some (α := p.T (CPs X r)) h
    · exact no_some (α := p.T (CPs X r)) h
def ME (ρ : Rn) (hp : Hp) (n : Nat) : Ent → Prop
  | .free => False
  | .dead => True
  | .box cs2 t => ∃ q cs, look ρ n = some (some q) ∧ hp q = .box cs t ∧ MCs ρ cs cs2
  | .row ty l e => (∃ q, look ρ n = some (some q) ∧ hp q = .row ty l e) ∨ (look ρ n = some none ∧ l = [])
  | .ro ty l e => (∃ q e', look ρ n = some (some q) ∧ hp q = .ro ty l e') ∨ (look ρ n = some none ∧ l = [])
  | .ex _ _ _ => False
  | .nro ty l e => ∃ q e', look ρ n = some (some q) ∧ look ρ (n + 1) = some (some (q + 1)) ∧ hp q = .nro ty l e'
  | .nrow ty l e => ∃ q, look ρ n = some (some q) ∧ hp q = .nrow ty l e
  | .gh => True
def kindOK (e : Option EP) (E : Ent) : Prop := (wrE E → wrP e = true) ∧ (lvE E → lvP e = true)
/-- What is kept of the heap. -/
def HeapOK (hp : Hp) (es : List EP) (l : List Ent) (n : Nat) (ρF : Rn) : Prop := l.length = es.length ∧ ∀ (i : Nat) (E : Ent), l[i]? = some E → ME ρF hp (n + i) E ∧ kindOK es[i]? E
theorem HeapOK.cons {hp : Hp} {es : List EP} {l : List Ent} {n : Nat} {ρF : Rn} {e : EP} {E : Ent} (h : HeapOK hp es l (n + 1) ρF) (h1 : ME ρF hp n E) (h2 : kindOK (some e) E) : HeapOK hp (e :: es) (E :: l) n ρF := by
  refine ⟨by simp [h.1], fun i E' hi => ?_⟩
  cases i with
  | zero => simp at hi; subst hi; exact ⟨h1, by simpa using h2⟩
  | succ i =>
    have := h.2 i E' (by simpa using hi)
    rw [show n + 1 + i = n + (i + 1) by omega] at this
    exact ⟨this.1, by simpa using this.2⟩
theorem absE_spec {X : Type} {hp : Hp} {K : Rn → Option X} : ∀ (es : List EP) (n : Nat) (ρ : Rn) (s : EPs X es), absE hp K es n ρ = some s → ∃ ρ', Sub ρ ρ' ∧ K ρ' = some (conE es s).2 ∧ ∀ ρF, Sub ρ' ρF → HeapOK hp es (conE es s).1 n ρF
  | [], n, ρ, s, h => ⟨ρ, .refl _, h, fun _ _ => ⟨rfl, fun i E hi => by cases hi⟩⟩
  | .dead :: r, n, ρ, s, h => by
    obtain ⟨ρ', h1, h2, h3⟩ := absE_spec r (n + 1) ρ s h
    exact ⟨ρ', h1, h2, fun ρF hF => (h3 ρF hF).cons trivial ⟨fun h => h.elim, fun h => h.elim⟩⟩
  | .box ps t :: r, n, ρ, s, h => by
    have h : (match look ρ n with
      | some (some q) => match hp q with
        | .box cs t' => cnd (Nat.beq t t') (absC (absE hp K r (n + 1)) ps cs ρ) none
        | _ => none
      | _ => none) = some s := h
    split at h
    · rename_i q hl
      split at h
      · rename_i cs t' hq
        cases hb : Nat.beq t t' with
        | false => rw [hb] at h; exact no_some h
        | true =>
          rw [hb] at h
          have := beq_nat hb
          subst this
          obtain ⟨ρ1, a1, a2, a3⟩ := absC_spec ps cs ρ s h
          obtain ⟨ρ2, b1, b2, b3⟩ := absE_spec r (n + 1) ρ1 _ a2
          exact ⟨ρ2, a1.trans b1, b2, fun ρF hF => (b3 ρF hF).cons (E := .box (conC ps s).1 t) ⟨q, cs, hF _ _ (b1 _ _ (a1 _ _ hl)), hq, a3 ρF (b1.trans hF)⟩ ⟨fun _ => rfl, fun _ => rfl⟩⟩
      · exact no_some h
    · exact no_some h
  | .row ty e :: r, n, ρ, s, h => by
    have h : ((match look ρ n with
      | some (some q) => match hp q with
        | .row ty' l e' => match ty'.dec ty with
          | some ⟨h⟩ => cnd (Nat.beq e e') (match absE hp K r (n + 1) ρ with
            | some t => some ((h ▸ l : List ty.T), t)
            | none => none) none
          | none => none
        | _ => none
      | some none => match absE hp K r (n + 1) ρ with
        | some t => some (([] : List ty.T), t)
        | none => none
      | none => none) : Option (List ty.T × EPs X r)) = some s := h
    split at h
    · rename_i q hl
      split at h
      · rename_i ty' l e' hq
        split at h
        · rename_i hd hdd
          cases hb : Nat.beq e e' with
          | false => rw [hb] at h; exact no_some (α := List ty.T × EPs X r) h
          | true =>
            rw [hb] at h
            have := beq_nat hb
            subst this
            subst hd
            simp only [cnd_true] at h
            split at h
            · rename_i t ht
              have h : some (l, t) = some s := h
              injection h with h
              subst h
              obtain ⟨ρ2, b1, b2, b3⟩ := absE_spec r (n + 1) ρ t ht
              exact ⟨ρ2, b1, b2, fun ρF hF => (b3 ρF hF).cons (E := .row ty' l e) (.inl ⟨q, hF _ _ (b1 _ _ hl), hq⟩) ⟨fun _ => rfl, fun _ => rfl⟩⟩
            · exact no_some (α := List ty'.T × EPs X r) h
        · exact no_some (α := List ty.T × EPs X r) h
      · exact no_some (α := List ty.T × EPs X r) h
    · rename_i hl
      split at h
      · rename_i t ht
        have h : some (([] : List ty.T), t) = some s := h
        injection h with h
        subst h
        obtain ⟨ρ2, b1, b2, b3⟩ := absE_spec r (n + 1) ρ t ht
        exact ⟨ρ2, b1, b2, fun ρF hF => (b3 ρF hF).cons (E := .row ty [] e) (.inr ⟨hF _ _ (b1 _ _ hl), rfl⟩) ⟨fun _ => rfl, fun _ => rfl⟩⟩
      · exact no_some (α := List ty.T × EPs X r) h
    · exact no_some (α := List ty.T × EPs X r) h
  | .ro ty e :: r, n, ρ, s, h => by
    have h : ((match look ρ n with
      | some (some q) => match hp q with
        | .ro ty' l e' => match ty'.dec ty with
          | some ⟨h⟩ => match absE hp K r (n + 1) ρ with
            | some t => some ((h ▸ l : List ty.T), t)
            | none => none
          | none => none
        | _ => none
      | some none => match absE hp K r (n + 1) ρ with
        | some t => some (([] : List ty.T), t)
        | none => none
      | none => none) : Option (List ty.T × EPs X r)) = some s := h
    split at h
    · rename_i q hl
      split at h
      · rename_i ty' l e' hq
        split at h
        · rename_i hd hdd
          subst hd
          split at h
          · rename_i t ht
            have h : some (l, t) = some s := h
            injection h with h
            subst h
            obtain ⟨ρ2, b1, b2, b3⟩ := absE_spec r (n + 1) ρ t ht
            exact ⟨ρ2, b1, b2, fun ρF hF => (b3 ρF hF).cons (E := .ro ty' l e) (.inl ⟨q, e', hF _ _ (b1 _ _ hl), hq⟩) ⟨fun h => h.elim, fun _ => rfl⟩⟩
          · exact no_some (α := List ty'.T × EPs X r) h
        · exact no_some (α := List ty.T × EPs X r) h
      · exact no_some (α := List ty.T × EPs X r) h
    · rename_i hl
      split at h
      · rename_i t ht
        have h : some (([] : List ty.T), t) = some s := h
        injection h with h
        subst h
        obtain ⟨ρ2, b1, b2, b3⟩ := absE_spec r (n + 1) ρ t ht
        exact ⟨ρ2, b1, b2, fun ρF hF => (b3 ρF hF).cons (E := .ro ty [] e) (.inr ⟨hF _ _ (b1 _ _ hl), rfl⟩) ⟨fun h => h.elim, fun _ => rfl⟩⟩
      · exact no_some (α := List ty.T × EPs X r) h
    · exact no_some (α := List ty.T × EPs X r) h
  | .nro ty e :: r, n, ρ, s, h => by
    have h : ((match look ρ n, look ρ (n + 1) with
      | some (some q), some (some g) => match hp q with
        | .nro ty' l e' => match ty'.dec ty with
          | some ⟨h⟩ => cnd (Nat.beq g (q + 1)) (match absE hp K r (n + 1) ρ with
            | some t => some ((h ▸ l : List ty.T), t)
            | none => none) none
          | none => none
        | _ => none
      | _, _ => none) : Option (List ty.T × EPs X r)) = some s := h
    split at h
    · rename_i q g hl hl1
      split at h
      · rename_i ty' l e' hq
        split at h
        · rename_i hd hdd
          cases hb : Nat.beq g (q + 1) with
          | false => rw [hb] at h; exact no_some (α := List ty.T × EPs X r) h
          | true =>
            rw [hb] at h
            have := beq_nat hb
            subst this
            subst hd
            simp only [cnd_true] at h
            split at h
            · rename_i t ht
              have h : some (l, t) = some s := h
              injection h with h
              subst h
              obtain ⟨ρ2, b1, b2, b3⟩ := absE_spec r (n + 1) ρ t ht
              exact ⟨ρ2, b1, b2, fun ρF hF => (b3 ρF hF).cons (E := .nro ty' l e) ⟨q, e', hF _ _ (b1 _ _ hl), hF _ _ (b1 _ _ hl1), hq⟩ ⟨fun h => h.elim, fun _ => rfl⟩⟩
            · exact no_some (α := List ty'.T × EPs X r) h
        · exact no_some (α := List ty.T × EPs X r) h
      · exact no_some (α := List ty.T × EPs X r) h
    · exact no_some (α := List ty.T × EPs X r) h
  | .nrow ty e :: r, n, ρ, s, h => by
    have h : ((match look ρ n with
      | some (some q) => match hp q with
        | .nrow ty' l e' => match ty'.dec ty with
          | some ⟨h⟩ => cnd (Nat.beq e e') (match absE hp K r (n + 1) ρ with
            | some t => some ((h ▸ l : List ty.T), t)
            | none => none) none
          | none => none
        | _ => none
      | _ => none) : Option (List ty.T × EPs X r)) = some s := h
    split at h
    · rename_i q hl
      split at h
      · rename_i ty' l e' hq
        split at h
        · rename_i hd hdd
          cases hb : Nat.beq e e' with
          | false => rw [hb] at h; exact no_some (α := List ty.T × EPs X r) h
          | true =>
            rw [hb] at h
            have := beq_nat hb
            subst this
            subst hd
            simp only [cnd_true] at h
            split at h
            · rename_i t ht
              have h : some (l, t) = some s := h
              injection h with h
              subst h
              obtain ⟨ρ2, b1, b2, b3⟩ := absE_spec r (n + 1) ρ t ht
              exact ⟨ρ2, b1, b2, fun ρF hF => (b3 ρF hF).cons (E := .nrow ty' l e) ⟨q, hF _ _ (b1 _ _ hl), hq⟩ ⟨fun _ => rfl, fun _ => rfl⟩⟩
            · exact no_some (α := List ty'.T × EPs X r) h
        · exact no_some (α := List ty.T × EPs X r) h
      · exact no_some (α := List ty.T × EPs X r) h
    · exact no_some (α := List ty.T × EPs X r) h
  | .gh :: r, n, ρ, s, h => by
    obtain ⟨ρ', h1, h2, h3⟩ := absE_spec r (n + 1) ρ s h
    exact ⟨ρ', h1, h2, fun ρF hF => (h3 ρF hF).cons (E := .gh) trivial ⟨fun h => h.elim, fun h => h.elim⟩⟩
def MV (ρ : Rn) (v : SV) : SV → Prop
  | .any => True
  | .a g ds => ∃ cs, v = .a g cs ∧ MCs ρ cs ds
  | .tup _ => False
theorem absT_spec {X : Type} {tm : Nat → SV} {K : Rn → Option X} : ∀ (ts : TP) (ρ : Rn) (s : TPs X ts), absT tm K ts ρ = some s → ∃ ρ', Sub ρ ρ' ∧ K ρ' = some (conT ts s).2 ∧ ∀ ρF, Sub ρ' ρF → ∀ t, MV ρF (tm t) (tmL (conT ts s).1 t)
  | [], ρ, s, h => ⟨ρ, .refl _, h, fun _ _ _ => trivial⟩
  | (t, g, ps) :: r, ρ, s, h => by
    have h : (match tm t with
      | .a g' cs => cnd (beqB g g') (absC (absT tm K r) ps cs ρ) none
      | _ => none) = some s := h
    split at h
    · rename_i g' cs ht
      cases hb : beqB g g' with
      | false => rw [hb] at h; exact no_some h
      | true =>
        rw [hb] at h
        have := beqB_eq hb
        subst this
        obtain ⟨ρ1, a1, a2, a3⟩ := absC_spec ps cs ρ s h
        obtain ⟨ρ2, b1, b2, b3⟩ := absT_spec r ρ1 _ a2
        refine ⟨ρ2, a1.trans b1, b2, fun ρF hF t' => ?_⟩
        show MV ρF (tm t') (cnd (Nat.beq t t') (.a g (conC ps s).1) (tmL (conT r (conC ps s).2).1 t'))
        by_cases e : t = t'
        · subst e
          rw [Nat.beq_refl]
          exact ⟨cs, ht, a3 ρF (b1.trans hF)⟩
        · rw [beq_ne e]
          exact b3 ρF hF t'
    · exact no_some h
theorem look_ini : ∀ {m n : Nat}, n < m → look (ini0 m) n = some (some n)
  | m + 1, n, h => by
    show cnd (Nat.beq m n) (some (some m)) (look (ini0 m) n) = some (some n)
    by_cases e : m = n
    · subst e; rw [Nat.beq_refl]; rfl
    · rw [beq_ne e]; exact look_ini (by omega)
theorem look_mem : ∀ {ρ : Rn} {n : Nat} {x : Option Nat}, look ρ n = some x → (n, x) ∈ ρ
  | (m, q) :: r, n, x, h => by
    have h : cnd (Nat.beq m n) (some q) (look r n) = some x := h
    by_cases e : m = n
    · subst e
      rw [Nat.beq_refl] at h
      have h : some q = some x := h
      injection h with h
      subst h
      exact List.mem_cons_self
    · rw [beq_ne e] at h
      exact List.mem_cons_of_mem _ (look_mem h)
/-- A label's names in a machine. -/
def νL (ρ : Rn) (ν : Nat → Value) (n : Nat) : Value :=
  match look ρ n with
  | some (some q) => ν q
  | _ => .slice none 0 0
section
variable {ρ : Rn} {hp hp2 : Hp} {ν : Nat → Value}
theorem MC.rel (hnf : ∀ n x, look ρ n = some x → hp2 n ≠ .free) {c d : SC} {v : Value} (h : MC ρ c d) (hv : CRel hp ν c v) : CRel hp2 (νL ρ ν) d v := by
  cases d with
  | any => exact hv.cell
  | int k n => cases h; exact hv
  | bool s => obtain ⟨s', rfl, hb⟩ := h; exact hv.trans (by rw [hb])
  | str s => cases h; exact hv
  | ptr n off =>
    obtain ⟨q, rfl, hl⟩ := h
    obtain ⟨_, g, h1, h2⟩ := hv
    exact ⟨hnf n _ hl, g, by unfold νL; rw [hl]; exact h1, h2⟩
  | nilp => cases h; exact hv
  | sl n =>
    rcases h with ⟨q, rfl, hl⟩ | ⟨rfl, hl⟩
    · obtain ⟨_, h1, h2⟩ := hv
      exact ⟨hnf n _ hl, by unfold νL; rw [hl]; exact h1, h2⟩
    · exact ⟨hnf n _ hl, by unfold νL; rw [hl]; exact hv, none, 0, 0, hv⟩
  | nils => exact h.elim
  | ep _ _ _ _ => exact h.elim
  | pj _ _ _ _ => exact h.elim
theorem MCs.rel (hnf : ∀ n x, look ρ n = some x → hp2 n ≠ .free) : ∀ {cs ds : List SC} {vs : List Value}, MCs ρ cs ds → CsRel hp ν cs vs → CsRel hp2 (νL ρ ν) ds vs
  | [], [], [], _, _ => trivial
  | _ :: _, _ :: _, _ :: _, h, hv => ⟨h.1.rel hnf hv.1, MCs.rel hnf h.2 hv.2⟩
  | [], [], _ :: _, _, hv => hv.elim
  | _ :: _, _ :: _, [], _, hv => hv.elim
  | [], _ :: _, _, h, _ => h.elim
  | _ :: _, [], _, h, _ => h.elim
theorem MV.rel (hnf : ∀ n x, look ρ n = some x → hp2 n ≠ .free) {x y : SV} {v : Value} (h : MV ρ x y) (hv : VRel hp ν x v) : VRel hp2 (νL ρ ν) y v := by
  cases y with
  | any => trivial
  | tup _ => exact h.elim
  | a g ds =>
    obtain ⟨cs, rfl, h1⟩ := h
    cases g with
    | true => obtain ⟨vs, rfl, h2⟩ := hv; exact ⟨vs, rfl, h1.rel hnf h2⟩
    | false =>
      obtain ⟨c, rfl, h2⟩ := hv
      match ds, h1 with
      | [d], h1 => exact ⟨d, rfl, h1.1.rel hnf h2⟩
      | _ :: _ :: _, h1 => exact h1.2.elim
end
end Go.Sx
