/- From a function's walk to its contract. -/
import Derived.Test.YtkcfdkfdmglamaaSyO
set_option linter.unusedVariables false
set_option linter.unusedSimpArgs false
namespace Go.Sx
theorem inCs_one (args : List SV) (k : RK) (x : k.T) (old : List SC) (nm : Nat) (hp : Hp) : inCs args [k] x old nm hp = (match inC args (old.headD .any) nm hp k x with
    | (a, nm, hp) => ([a], nm, hp)) := rfl
theorem inCs_cons (args : List SV) (k k' : RK) (r : List RK) (x : k.T × RKs (k' :: r)) (old : List SC) (nm : Nat) (hp : Hp) : inCs args (k :: k' :: r) x old nm hp = (match inC args (old.headD .any) nm hp k x.1 with
    | (a, nm, hp) => match inCs args (k' :: r) x.2 old.tail nm hp with
      | (b, nm, hp) => (a :: b, nm, hp)) := rfl
theorem news_cons (k : RK) (r : List RK) : RK.news (k :: r) = RK.news [k] + RK.news r := by
  cases k <;> simp [RK.news] <;> omega
section
variable {F : Fin} {rem remC : List Nat}
/-- What is kept of a box: the same slices. -/
def OldRel (F : Fin) (olds0 olds : List SC) : Prop := ∀ j q, olds0[j]? = some (.sl q) → CRel F.hp F.ν (olds.getD j .any) (F.νF q)
theorem OldRel.head {a b : List SC} (h : OldRel F a b) : ∀ q, a.headD .any = .sl q → CRel F.hp F.ν (b.headD .any) (F.νF q) := by
  intro q hq
  cases a with
  | nil => cases hq
  | cons x xs =>
    have hq : x = .sl q := hq
    have := h 0 q (by rw [hq]; rfl)
    cases b <;> exact this
theorem OldRel.tail {a b : List SC} (h : OldRel F a b) : OldRel F a.tail b.tail := by
  intro j q hq
  cases a with
  | nil => simp at hq
  | cons x xs =>
    have := h (j + 1) q (by simpa using hq)
    cases b <;> simpa using this
theorem OldRel.nil (b : List SC) : OldRel F [] b := fun j q h => by simp at h
theorem EndI.cells (hF : FinOK F) {argsC args : List SV} (hqs : ∀ q, q ∈ F.qs → q ∈ slA argsC) (hal : ∀ i j q, cellOf argsC i j = .sl q → CRel F.hp F.ν (cellOf args i j) (F.νF q)) :
    ∀ (ks : List RK) (b : RKs ks) (xs : List SC) (vs : List Value) (oldsC olds : List SC) (nm : Nat) (hpc : Hp) (νc : Nat → Value) (hpF hpF' : Hp) (scs : List SC) (nm' : Nat) (hpc' : Hp), EndI F rem remC nm hpc νc hpF → exCs argsC ks xs oldsC hpF = some (b, hpF') → CsRel hpF F.νF xs vs →
      inCs args ks b olds nm hpc = (scs, nm', hpc') → nm + RK.news ks ≤ F.top → OldRel F oldsC olds →
      ∃ νc', EndI F rem remC nm' hpc' νc' hpF' ∧ CsRel hpc' νc' scs vs ∧ Ext hpc νc hpc' νc' ∧ Ext hpF F.νF hpF' F.νF ∧ nm' = nm + RK.news ks ∧ (∀ n, n < nm → hpc' n = hpc n)
  | [], b, xs, vs, oldsC, olds, nm, hpc, νc, hpF, hpF', scs, nm', hpc', hE, h, hv, hq, htop, ho => by
    have hq : (([] : List SC), nm, hpc) = (scs, nm', hpc') := hq
    simp only [Prod.mk.injEq] at hq
    obtain ⟨rfl, rfl, rfl⟩ := hq
    match xs, vs, hv with
    | [], [], _ =>
      have h : some ((), hpF) = some (b, hpF') := h
      injection h with h
      injection h with _ h
      subst h
      exact ⟨νc, hE, trivial, .refl _ _, .refl _ _, rfl, fun _ _ => rfl⟩
    | _ :: _, _, _ => exact no_some (α := Unit × Hp) h
  | [k], b, xs, vs, oldsC, olds, nm, hpc, νc, hpF, hpF', scs, nm', hpc', hE, h, hv, hq, htop, ho => by
    match xs, vs, hv with
    | [x], [v], hv =>
      replace hq := (inCs_one args k b olds nm hpc).symm.trans hq
      generalize hq1 : inC args (olds.headD .any) nm hpc k b = q at hq
      obtain ⟨a1, n1, p1⟩ := q
      simp only [Prod.mk.injEq] at hq
      obtain ⟨rfl, rfl, rfl⟩ := hq
      obtain ⟨νc', h1, h2, h3, h4, h5, h6, h7⟩ := hE.cell hF hqs (k := k) (b := b) h hv.1 hq1 htop hal ho.head
      exact ⟨νc', h1, ⟨h2, trivial⟩, h3, h4, h5, h7⟩
    | [], _, _ => exact no_some (α := k.T × Hp) h
    | _ :: _ :: _, _, _ => exact no_some (α := k.T × Hp) h
    | [_], [], hv => exact hv.elim
    | [_], _ :: _ :: _, hv => exact hv.2.elim
  | k :: k' :: r, b, xs, vs, oldsC, olds, nm, hpc, νc, hpF, hpF', scs, nm', hpc', hE, h, hv, hq, htop, ho => by
    match xs, vs, hv with
    | x :: xr, v :: vr, hv =>
      replace h : ((match exC argsC (oldsC.headD .any) hpF k x with
        | some (a, hp) => match exCs argsC (k' :: r) xr oldsC.tail hp with
          | some (b, hp) => some ((a, b), hp)
          | none => none
        | none => none) : Option ((k.T × RKs (k' :: r)) × Hp)) = some (b, hpF') := h
      split at h
      · rename_i a1 hpF1 ha
        split at h
        · rename_i b1 hpF2 hb
          have h : some ((a1, b1), hpF2) = some (b, hpF') := h
          injection h with h
          injection h with h h'
          subst h h'
          replace hq : (match inC args (olds.headD .any) nm hpc k a1 with
            | (a, nm, hp) => match inCs args (k' :: r) b1 olds.tail nm hp with
              | (b, nm, hp) => (a :: b, nm, hp)) = (scs, nm', hpc') := hq
          generalize hq1 : inC args (olds.headD .any) nm hpc k a1 = q at hq
          obtain ⟨s1, n1, p1⟩ := q
          simp only [] at hq
          generalize hq2 : inCs args (k' :: r) b1 olds.tail n1 p1 = q at hq
          obtain ⟨s2, n2, p2⟩ := q
          simp only [Prod.mk.injEq] at hq
          obtain ⟨rfl, rfl, rfl⟩ := hq
          rw [news_cons] at htop ⊢
          obtain ⟨νc1, h1, h2, h3, h4, h5, h6, h7⟩ := hE.cell hF hqs (k := k) (b := a1) ha hv.1 hq1 (by omega) hal ho.head
          obtain ⟨νc2, g1, g2, g3, g4, g5, g7⟩ := EndI.cells hF hqs hal (k' :: r) b1 xr vr oldsC.tail olds.tail n1 p1 νc1 hpF1 hpF2 s2 n2 p2 h1 hb (hv.2.mono h4) hq2 (by omega) ho.tail
          exact ⟨νc2, g1, ⟨h2.mono g3, g2⟩, h3.trans g3, h4.trans g4, by omega, fun n hn => (g7 n (by omega)).trans (h7 n hn)⟩
        · exact no_some (α := (k.T × RKs (k' :: r)) × Hp) h
      · exact no_some (α := (k.T × RKs (k' :: r)) × Hp) h
    | [], _, _ => exact no_some (α := (k.T × RKs (k' :: r)) × Hp) h
    | _ :: _, [], hv => exact hv.elim
theorem beqB_eq {a b : Bool} (h : beqB a b = true) : a = b := by cases a <;> cases b <;> first | rfl | cases h
/-- The blocks of the boxes that were handed, on both sides. -/
def PsRel (F : Fin) (remC : List Nat) : Prop := ∀ p, p ∈ F.ps → ∃ p0, p0 ∈ remC ∧ F.νF p0 = F.ν p
/-- One result is handed back. -/
theorem EndI.val {nm : Nat} {hpc : Hp} {νc : Nat → Value} {hpF : Hp} (hE : EndI F rem remC nm hpc νc hpF) (hF : FinOK F) (hps : ∀ q, q ∈ F.qs → q ∈ remC) {argsC args : List SV} (hqs : ∀ q, q ∈ F.qs → q ∈ slA argsC) (hal : ∀ i j q, cellOf argsC i j = .sl q → CRel F.hp F.ν (cellOf args i j) (F.νF q))
    {k : OK} {x : SV} {b : k.T} {hpF' : Hp} {v : Value} {r : Bool × List SC} {nm' : Nat} {hpc' : Hp}
    (h : exO argsC remC hpF k x = some (b, hpF')) (hv : VRel hpF F.νF x v) (hq : inO args k b nm hpc = (r, nm', hpc')) (htop : nm + OK.news [k] ≤ F.top) :
    ∃ νc', EndI F rem remC nm' hpc' νc' hpF' ∧ ARel hpc' νc' r.1 r.2 v ∧ Ext hpc νc hpc' νc' ∧ Ext hpF F.νF hpF' F.νF ∧ nm' = nm + OK.news [k] := by
  cases k with
  | v g ks =>
    have hnews : OK.news [.v g ks] = RK.news ks := by simp [OK.news]
    rw [hnews] at htop ⊢
    match x with
    | .a g' cs =>
      have h2 : cnd (beqB g g') (exCs argsC ks cs [] hpF) none = some (b, hpF') := h
      clear h
      cases hg : beqB g g' with
      | false => rw [hg] at h2; exact no_some (α := RKs ks × Hp) h2
      | true =>
        rw [hg] at h2
        have := beqB_eq hg
        subst this
        have h3 : exCs argsC ks cs [] hpF = some (b, hpF') := h2
        replace hq : (match inCs args ks b [] nm hpc with | (cs, nm, hp) => ((g, cs), nm, hp)) = (r, nm', hpc') := hq
        generalize hq1 : inCs args ks b [] nm hpc = q at hq
        obtain ⟨s1, n1, p1⟩ := q
        simp only [Prod.mk.injEq] at hq
        obtain ⟨rfl, rfl, rfl⟩ := hq
        cases g with
        | true =>
          obtain ⟨vs, rfl, hcs⟩ := hv
          obtain ⟨νc', h1, h4, h5, h6, h7, _⟩ := EndI.cells hF hqs hal ks b cs vs.toList [] [] nm hpc νc hpF hpF' s1 n1 p1 hE h3 hcs hq1 htop (.nil _)
          exact ⟨νc', h1, ⟨vs, rfl, h4⟩, h5, h6, h7⟩
        | false =>
          obtain ⟨y, rfl, hy⟩ := hv
          obtain ⟨νc', h1, h4, h5, h6, h7, _⟩ := EndI.cells hF hqs hal ks b [y] [v] [] [] nm hpc νc hpF hpF' s1 n1 p1 hE h3 ⟨hy, trivial⟩ hq1 htop (.nil _)
          refine ⟨νc', h1, ?_, h5, h6, h7⟩
          match s1, h4 with
          | [z], h4 => exact ⟨z, rfl, h4.1⟩
          | [], h4 => exact h4.elim
          | _ :: _ :: _, h4 => exact h4.2.elim
    | .any => exact no_some (α := RKs ks × Hp) h
    | .tup _ => exact no_some (α := RKs ks × Hp) h
  | row t e => cases x <;> exact no_some (α := List t.T × Hp) h
  | box ks t =>
    have hnews : OK.news [.box ks t] = RK.news ks + 1 := by simp [OK.news]
    rw [hnews] at htop ⊢
    have bad : ∀ {p : Prop}, (none : Option (RKs ks × Hp)) = some (b, hpF') → p := fun h => no_some h
    match x with
    | .a false [.ptr n 0] =>
      have h2 : (match hpF n with
        | .box cs t' => cnd (Nat.beq t t' && !(memN n remC)) (match exCs argsC ks cs [] hpF with
          | some (a, hp') => some (a, upd hp' n .dead)
          | none => none) none
        | _ => none) = some (b, hpF') := h
      clear h
      cases hb : hpF n with
      | box cs t' =>
        rw [hb] at h2
        have h3 : cnd (Nat.beq t t' && !(memN n remC)) (match exCs argsC ks cs [] hpF with
          | some (a, hp') => some (a, upd hp' n .dead)
          | none => none) none = some (b, hpF') := h2
        clear h2
        cases hc : (Nat.beq t t' && !(memN n remC)) with
        | false => rw [hc] at h3; exact bad h3
        | true =>
          rw [hc] at h3
          have h4' : (match exCs argsC ks cs [] hpF with
            | some (a, hp') => some (a, upd hp' n .dead)
            | none => none) = some (b, hpF') := h3
          clear h3
          rw [Bool.and_eq_true, Bool.not_eq_true'] at hc
          have ht := Nat.eq_of_beq_eq_true hc.1
          subst ht
          have hnr : n ∉ remC := fun hh => by rw [memN_iff.2 hh] at hc; cases hc.2
          replace hq : (match inCs args ks b [] (nm + 1) hpc with | (cs, nm', hp) => ((false, [SC.ptr nm 0]), nm', upd hp nm (.box cs t))) = (r, nm', hpc') := hq
          generalize hq1 : inCs args ks b [] (nm + 1) hpc = q at hq
          obtain ⟨s1, n1, p1⟩ := q
          simp only [Prod.mk.injEq] at hq
          obtain ⟨rfl, rfl, rfl⟩ := hq
          obtain ⟨hnf, g, hg, hvv⟩ := hv.ptr
          have hent := hE.memF.ent n
          rw [hb] at hent
          obtain ⟨g', vs, hg', hheap, hcs⟩ := hent
          rw [hg] at hg'
          simp only [Value.pointer.injEq, Option.some.injEq, Addr.mk.injEq, and_true] at hg'
          subst hg'
          have hbn : wrE (hpF n) := by rw [hb]; trivial
          have hblk : blk (F.νF n) = some g := by rw [hg]; rfl
          have hnq : n ∉ F.qs := fun hin => hnr (hps n hin)
          obtain ⟨hG, hsz⟩ := hE.fresh hF hbn hnq hblk
          have hbase : F.base ≤ F.w.heap.size := hF.mem.fr.bs
          have hfree : hpc nm = .free := hE.free nm (Nat.le_refl _) (by omega)
          cases hex : exCs argsC ks cs [] hpF with
          | none => rw [hex] at h4'; exact bad h4'
          | some res =>
            obtain ⟨b1, hpF1⟩ := res
            rw [hex] at h4'
            have h4 : some (b1, upd hpF1 n .dead) = some (b, hpF') := h4'
            injection h4 with h4
            injection h4 with h4 h4b
            subst h4 h4b
            have hE1 : EndI F rem (n :: remC) (nm + 1) hpc νc hpF :=
              ⟨hE.mem, hE.ext, hE.old, hE.sub, fun m h1 h2 => hE.free m (by omega) h2, hE.memF, hE.cross, hE.sepR, fun p hp => by
                cases hp with
                | head => exact .inl (by rw [hb]; trivial)
                | tail _ hp => exact hE.boxF p hp, hE.allF⟩
            obtain ⟨νc1, h1, h5, h6, h7, h8, h9⟩ := EndI.cells hF hqs hal ks b1 cs vs.toList [] [] (nm + 1) hpc νc hpF hpF1 s1 n1 p1 hE1 hex hcs hq1 (by omega) (.nil _)
            have hslot : p1 nm = .free := by rw [h9 nm (by omega)]; exact hfree
            have hbn1 : wrE (hpF1 n) := ((h1.boxF n List.mem_cons_self).resolve_right hnq).wr
            have hE2 : EndI F rem remC n1 p1 νc1 hpF1 := ⟨h1.mem, h1.ext, h1.old, h1.sub, h1.free, h1.memF, h1.cross, h1.sepR, fun p hp => h1.boxF p (List.mem_cons_of_mem _ hp), h1.allF⟩
            have hd1 := deadOf_ext (ν := νc1) (rem := rem) (hp := p1) (fun p hp hh => by
              have h10 := hF.box p (h1.sub p hp)
              rw [← h1.old p hp, hh] at h10
              exact h10)
            have hnr2 := hE2.notrem hF hslot
            have hd2 : deadOf rem p1 nm = .free := by rw [deadOf_out hnr2]; exact hslot
            have hI := hE2.install hF (s := nm) (nm' := n1) hslot (Nat.le_refl _) (by omega) (e := .box s1 t) (v := .pointer (some ⟨g, 0, none⟩)) (by simp) (hpF' := upd hpF1 n .dead)
              ⟨g, vs, rfl, hheap, (h5.mono hd1.1).mono (Ext.new hd2 _ _)⟩ (fun g2 hg2 => by
                have hg2 : some g = some g2 := hg2
                injection hg2 with hg2
                subst hg2
                refine ⟨hG, by omega, fun m hm => h1.cross n hbn1 g hblk hG m hm, fun q hq hc => ?_⟩
                have hqn : q ≠ n := fun e => by subst e; rw [upd_same] at hq; exact hq
                rw [upd_other _ _ hqn] at hq
                exact h1.memF.sep n q (fun e => hqn e.symm) hbn1 hq.lv g hblk hc) (h1.memF.kill n) (fun q hq => by
                have hqn : q ≠ n := fun e => by subst e; rw [upd_same] at hq; exact hq
                rw [upd_other _ _ hqn] at hq
                exact hq) (fun p hp => by
                have hpn : p ≠ n := fun e => by subst e; exact hnr hp
                rw [upd_other _ _ hpn]
                exact h1.boxF p (List.mem_cons_of_mem _ hp)) (fun p hp => by
                have hpn : p ≠ n := fun e => by subst e; exact hnq hp
                rw [upd_other _ _ hpn]
                exact h1.allF p hp)
            refine ⟨_, hI.1, ⟨_, rfl, by rw [upd_same]; simp, g, by rw [upd_same], hvv⟩, h6.trans hI.2, h7.trans (Ext.kill _ _ _), by omega⟩
      | _ => rw [hb] at h2; exact bad h2
    | .a false [.ptr n (m + 1)] => exact bad h
    | .a false [] => exact bad h
    | .a false (x :: _ :: _) => cases x with
      | ptr n m => cases m <;> exact bad h
      | _ => exact bad h
    | .a true _ => exact bad h
    | .any => exact bad h
    | .tup _ => exact bad h
    | .a false [.any] | .a false [.bool _] | .a false [.int _ _] | .a false [.str _] | .a false [.nilp] | .a false [.sl _] | .a false [.nils] | .a false [.ep _ _ _ _] => exact bad h
/-- One box that was handed. -/
theorem EndI.upd_ {p : Nat} {rem : List Nat} {nm : Nat} {hpc : Hp} {νc : Nat → Value} {hpF : Hp} {p0 : Nat} {remC : List Nat} (hE : EndI F (p :: rem) (p0 :: remC) nm hpc νc hpF) (hF : FinOK F) (hnd : p ∉ rem) (hpp : F.νF p0 = F.ν p) {argsC args : List SV} (hqs : ∀ q, q ∈ F.qs → q ∈ slA argsC) (hal : ∀ i j q, cellOf argsC i j = .sl q → CRel F.hp F.ν (cellOf args i j) (F.νF q))
    {hp0 : Hp} {k : OK} {b : k.T} {hpF' : Hp} {nm' : Nat} {hpc' : Hp} (h : exU argsC hp0 hpF p0 k = some (b, hpF')) (hq : upO args p k b nm hpc = (nm', hpc')) (htop : nm + OK.news [k] ≤ F.top + 1)
    (hold : ∀ old0 t0 old t1, hp0 p0 = .box old0 t0 → F.hp p = .box old t1 → OldRel F old0 old) :
    ∃ νc', EndI F rem remC nm' hpc' νc' hpF' ∧ Ext hpc νc hpc' νc' ∧ nm' + 1 = nm + OK.news [k] := by
  cases k with
  | v g ks => exact no_some (α := RKs ks × Hp) h
  | box ks t =>
    have hnews : OK.news [.box ks t] = RK.news ks + 1 := by simp [OK.news]
    rw [hnews] at htop ⊢
    have bad : ∀ {p : Prop}, (none : Option (RKs ks × Hp)) = some (b, hpF') → p := fun h => no_some h
    have hpin : p ∈ p :: rem := List.mem_cons_self
    have hboxp := hF.box p (hE.sub p hpin)
    have hoc := hE.old p hpin
    have h2 : (match hp0 p0, hpF p0 with
      | .box old _, .box cs t' => cnd (Nat.beq t t') (exCs argsC ks cs old hpF) none
      | _, _ => none) = some (b, hpF') := h
    clear h
    cases hb0 : hp0 p0 with
    | box old0 t0 =>
      rw [hb0] at h2
      cases hbF : hpF p0 with
      | box cs t' =>
        rw [hbF] at h2
        have h3 : cnd (Nat.beq t t') (exCs argsC ks cs old0 hpF) none = some (b, hpF') := h2
        clear h2
        cases ht : Nat.beq t t' with
        | false => rw [ht] at h3; exact bad h3
        | true =>
          rw [ht] at h3
          have h4 : exCs argsC ks cs old0 hpF = some (b, hpF') := h3
          have := Nat.eq_of_beq_eq_true ht
          subst this
          have hgb : ∃ old t1, F.hp p = .box old t1 := by
            have hent := hE.memF.ent p0
            rw [hbF] at hent
            obtain ⟨g, vs, hg, hheap, hcs⟩ := hent
            have hep := hF.mem.ent p
            rw [← hpp, hg] at hep
            cases hbp : F.hp p with
            | box old t1 => exact ⟨old, t1, rfl⟩
            | row t2 l2 e2 =>
              rw [hbp] at hep
              rcases hep.2 with ⟨h5, _⟩ | ⟨g', cap, cur, h5, _⟩ <;> cases h5
            | ex t2 l2 e2 =>
              rw [hbp] at hep
              rcases hep with ⟨h5, _⟩ | ⟨g', off, c, vs2, e3, fz, h5, _⟩ <;> cases h5
            | free => rw [hbp] at hboxp; exact hboxp.elim
            | dead => rw [hbp] at hboxp; exact hboxp.elim
            | ro t2 l2 e2 => rw [hbp] at hboxp; exact hboxp.elim
          cases hbp : F.hp p with
          | box old t1 =>
            rw [hbp] at hoc
            have hq : (match hpc p with
              | .box old _ => match inCs args ks b old nm hpc with
                | (cs, nm, hp) => (nm, upd hp p (.box cs t))
              | _ => (nm, hpc)) = (nm', hpc') := hq
            rw [hoc] at hq
            replace hq : (match inCs args ks b old nm hpc with
                | (cs, nm, hp) => (nm, upd hp p (.box cs t))) = (nm', hpc') := hq
            generalize hq1 : inCs args ks b old nm hpc = q at hq
            obtain ⟨s1, n1, p1⟩ := q
            simp only [Prod.mk.injEq] at hq
            obtain ⟨rfl, rfl⟩ := hq
            have hent := hE.memF.ent p0
            rw [hbF] at hent
            obtain ⟨g, vs, hg, hheap, hcs⟩ := hent
            obtain ⟨νc1, h1, h5, h6, h7, h8, h9⟩ := EndI.cells hF hqs hal ks b cs vs.toList old0 old nm hpc νc hpF hpF' s1 n1 p1 hE h4 hcs hq1 (by omega) (hold old0 t0 old t1 hb0 hbp)
            have hνp : νc1 p = .pointer (some ⟨g, 0, none⟩) := by
              have hnf : F.hp p ≠ .free := by rw [hbp]; simp
              rw [(h1.ext.keep p hnf).2, ← hpp, hg]
            have hνpF : F.ν p = .pointer (some ⟨g, 0, none⟩) := by rw [← hpp, hg]
            have hd1 := deadOf_ext (ν := νc1) (rem := p :: rem) (hp := p1) (fun p2 hp2 hh => by
              have h10 := hF.box p2 (h1.sub p2 hp2)
              rw [← h1.old p2 hp2, hh] at h10
              exact h10)
            have hdp : deadOf (p :: rem) p1 p = .dead := deadOf_in hpin
            have hfn : deadOf rem (upd p1 p (.box s1 t)) = upd (deadOf (p :: rem) p1) p (.box s1 t) := by
              rw [deadOf_upd hnd]
              funext m
              by_cases hm : m = p
              · subst hm; rw [upd_same, upd_same]
              · rw [upd_other _ _ hm, upd_other _ _ hm]
                by_cases hmr : m ∈ rem
                · rw [deadOf_in hmr, deadOf_in (List.mem_cons_of_mem _ hmr)]
                · rw [deadOf_out hmr, deadOf_out (by simp [hm, hmr])]
            have hlive : ∀ m, lvE (deadOf rem (upd p1 p (.box s1 t)) m) → m = p ∨ lvE (deadOf (p :: rem) p1 m) := by
              intro m hm
              rw [hfn] at hm
              by_cases hmp : m = p
              · exact .inl hmp
              · rw [upd_other _ _ hmp] at hm; exact .inr hm
            have hext2 : Ext (deadOf (p :: rem) p1) νc1 (upd (deadOf (p :: rem) p1) p (.box s1 t)) νc1 := ⟨fun n hn => ⟨by
              by_cases hnp : n = p
              · subst hnp; rw [upd_same]; simp
              · rw [upd_other _ _ hnp]; exact hn, rfl⟩⟩
            have hext3 : Ext p1 νc1 (upd p1 p (.box s1 t)) νc1 := ⟨fun n hn => ⟨by
              by_cases hnp : n = p
              · subst hnp; rw [upd_same]; simp
              · rw [upd_other _ _ hnp]; exact hn, rfl⟩⟩
            have hmem := h1.mem.revive (p := p) (by rw [hdp]; exact fun h => h) (by rw [hdp]; simp) (e := .box s1 t) (by simp) ⟨g, vs, hνp, hheap, (h5.mono hd1.1).mono hext2⟩
              (fun m hm g2 hg2 hc => by
                rw [hνp] at hg2
                exact h1.sepR p hpin m hm g2 (by rw [hνpF]; exact hg2) hc) (fun g2 hg2 => by
                rw [hνp] at hg2
                exact hF.mem.mine p hboxp g2 (by rw [hνpF]; exact hg2))
            refine ⟨νc1, ⟨by rw [hfn]; exact hmem, h1.ext.trans hext3, fun p2 hp2 => ?_, fun p2 hp2 => h1.sub p2 (List.mem_cons_of_mem _ hp2), fun m h10 h11 => ?_, h1.memF, fun q hqw g2 hg2 hG m hm => ?_, fun p2 hp2 m hm g2 hg2 => ?_, fun p2 hp2 => h1.boxF p2 (List.mem_cons_of_mem _ hp2), h1.allF⟩, h6.trans hext3, by omega⟩
            · have : p2 ≠ p := fun e => by subst e; exact hnd hp2
              rw [upd_other _ _ this]
              exact h1.old p2 (List.mem_cons_of_mem _ hp2)
            · have hmp : m ≠ p := fun e => by
                subst e
                have h12 := h1.free m h10 h11
                have h13 := h1.old m hpin
                rw [h12, hbp] at h13
                cases h13
              rw [upd_other _ _ hmp]
              exact h1.free m h10 h11
            · rcases hlive m hm with rfl | hm
              · intro hc
                rw [hνp] at hc
                exact hG ⟨m, h1.sub m hpin, by rw [hνpF]; exact hc⟩
              · exact h1.cross q hqw g2 hg2 hG m hm
            · rcases hlive m hm with rfl | hm
              · intro hc
                rw [hνp] at hc
                have hne : p2 ≠ m := fun e => by subst e; exact hnd hp2
                have hb2 := hF.box p2 (h1.sub p2 (List.mem_cons_of_mem _ hp2))
                exact hF.mem.sep p2 m hne hb2 hboxp.lv g2 hg2 (by rw [hνpF]; exact hc)
              · exact h1.sepR p2 (List.mem_cons_of_mem _ hp2) m hm g2 hg2
          | _ =>
            obtain ⟨old, t1, hgb⟩ := hgb
            rw [hbp] at hgb
            cases hgb
      | _ => rw [hbF] at h2; exact bad h2
    | _ => rw [hb0] at h2; exact bad h2
  | row t e =>
    have hnews : OK.news [.row t e] = 1 := rfl
    rw [hnews] at htop ⊢
    have hpin : p ∈ p :: rem := List.mem_cons_self
    have hboxp := hF.box p (hE.sub p hpin)
    have hrow : hpF p0 = .row t b e ∧ hpF' = hpF := by
      have h2 : (match hpF p0 with
        | .row t' l e' => match t'.dec t with
          | some ⟨h⟩ => cnd (Nat.beq e e') (some ((h ▸ l : List t.T), hpF)) none
          | none => none
        | _ => none) = some (b, hpF') := h
      clear h
      cases hr : hpF p0 with
      | row t' l e' =>
        rw [hr] at h2
        have h3 : (match t'.dec t with
          | some ⟨h⟩ => cnd (Nat.beq e e') (some ((h ▸ l : List t.T), hpF)) none
          | none => none) = some (b, hpF') := h2
        clear h2
        split at h3
        · rename_i heq _
          subst heq
          cases he : Nat.beq e e' with
          | false => rw [he] at h3; exact no_some (α := List t'.T × Hp) h3
          | true =>
            rw [he] at h3
            have := Nat.eq_of_beq_eq_true he
            subst this
            have h4 : some (l, hpF) = some (b, hpF') := h3
            injection h4 with h4
            injection h4 with h4 h5
            subst h4
            exact ⟨rfl, h5.symm⟩
        · exact no_some h3
      | _ => rw [hr] at h2; exact no_some (α := List t.T × Hp) h2
    obtain ⟨hrow, rfl⟩ := hrow
    have hq : (nm, upd hpc p (.row t b e)) = (nm', hpc') := hq
    simp only [Prod.mk.injEq] at hq
    obtain ⟨rfl, rfl⟩ := hq
    have hent := hE.memF.ent p0
    rw [hrow, hpp] at hent
    have hent : F.wF.ownsRow 0 e t.size (F.ν p) b.length (t.flat b) := hent
    have hpf : F.hp p ≠ .free := fun hh => by rw [hh] at hboxp; exact hboxp.elim
    have hνp : νc p = F.ν p := (hE.ext.keep p hpf).2
    have hdp : deadOf (p :: rem) hpc p = .dead := deadOf_in hpin
    have hfn : deadOf rem (upd hpc p (.row t b e)) = upd (deadOf (p :: rem) hpc) p (.row t b e) := by
      rw [deadOf_upd hnd]
      funext m
      by_cases hm : m = p
      · subst hm; rw [upd_same, upd_same]
      · rw [upd_other _ _ hm, upd_other _ _ hm]
        by_cases hmr : m ∈ rem
        · rw [deadOf_in hmr, deadOf_in (List.mem_cons_of_mem _ hmr)]
        · rw [deadOf_out hmr, deadOf_out (by simp [hm, hmr])]
    have hlive : ∀ m, lvE (deadOf rem (upd hpc p (.row t b e)) m) → m = p ∨ lvE (deadOf (p :: rem) hpc m) := by
      intro m hm
      rw [hfn] at hm
      by_cases hmp : m = p
      · exact .inl hmp
      · rw [upd_other _ _ hmp] at hm; exact .inr hm
    have hext3 : Ext hpc νc (upd hpc p (.row t b e)) νc := ⟨fun n hn => ⟨by
      by_cases hnp : n = p
      · subst hnp; rw [upd_same]; simp
      · rw [upd_other _ _ hnp]; exact hn, rfl⟩⟩
    have hmem := hE.mem.revive (p := p) (by rw [hdp]; exact fun h => h) (by rw [hdp]; simp) (e := .row t b e) (by simp) (by rw [hνp]; exact hent)
      (fun m hm g2 hg2 hc => by
        rw [hνp] at hg2
        exact hE.sepR p hpin m hm g2 hg2 hc) (fun g2 hg2 => by
        rw [hνp] at hg2
        exact hF.mem.mine p hboxp g2 hg2)
    refine ⟨νc, ⟨by rw [hfn]; exact hmem, hE.ext.trans hext3, fun p2 hp2 => ?_, fun p2 hp2 => hE.sub p2 (List.mem_cons_of_mem _ hp2), fun m h10 h11 => ?_, hE.memF, fun q hqw g2 hg2 hG m hm => ?_, fun p2 hp2 m hm g2 hg2 => ?_, fun p2 hp2 => hE.boxF p2 (List.mem_cons_of_mem _ hp2), hE.allF⟩, hext3, rfl⟩
    · have : p2 ≠ p := fun e => by subst e; exact hnd hp2
      rw [upd_other _ _ this]
      exact hE.old p2 (List.mem_cons_of_mem _ hp2)
    · have hmp : m ≠ p := fun e => by
        subst e
        have h12 := hE.free m h10 h11
        have h13 := hE.old m hpin
        rw [h12] at h13
        exact hpf h13.symm
      rw [upd_other _ _ hmp]
      exact hE.free m h10 h11
    · rcases hlive m hm with rfl | hm
      · intro hc
        rw [hνp] at hc
        exact hG ⟨m, hE.sub m hpin, hc⟩
      · exact hE.cross q hqw g2 hg2 hG m hm
    · rcases hlive m hm with rfl | hm
      · intro hc
        rw [hνp] at hc
        have hne : p2 ≠ m := fun e => by subst e; exact hnd hp2
        have hb2 := hF.box p2 (hE.sub p2 (List.mem_cons_of_mem _ hp2))
        exact hF.mem.sep p2 m hne hb2 hboxp.lv g2 hg2 hc
      · exact hE.sepR p2 (List.mem_cons_of_mem _ hp2) m hm g2 hg2
end
end Go.Sx
