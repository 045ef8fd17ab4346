/- Slices: cut, made, appended to; one operation, whichever. -/
import Derived.Test.YtkcfdkfdmglamaaSyG
set_option linter.unusedVariables false
set_option linter.unusedSimpArgs false
namespace Go.Sx
open Go.RowKit (wrap64)

theorem flat_take (t : Ty) (l : List t.T) (n : Nat) : t.flat (l.take n) = (t.flat l).take (n * t.size) := by
  by_cases h : n ≤ l.length
  · have e : t.flat l = t.flat (l.take n) ++ t.flat (l.drop n) := by rw [← Ty.flat_append, List.take_append_drop]
    have hl : (t.flat (l.take n)).length = n * t.size := by rw [Ty.flat_len, List.length_take, Nat.min_eq_left h]
    rw [e, ← hl, List.take_left]
  · rw [List.take_of_length_le (by omega), List.take_of_length_le (by rw [Ty.flat_len]; exact Nat.mul_le_mul_right _ (by omega))]
theorem flat_drop (t : Ty) (l : List t.T) (n : Nat) : t.flat (l.drop n) = (t.flat l).drop (n * t.size) := by
  by_cases h : n ≤ l.length
  · have e : t.flat l = t.flat (l.take n) ++ t.flat (l.drop n) := by rw [← Ty.flat_append, List.take_append_drop]
    have hl : (t.flat (l.take n)).length = n * t.size := by rw [Ty.flat_len, List.length_take, Nat.min_eq_left h]
    rw [e, ← hl, List.drop_left]
  · rw [List.drop_of_length_le (by omega), List.drop_of_length_le (by rw [Ty.flat_len]; exact Nat.mul_le_mul_right _ (by omega))]
    rfl
section
variable {P : Program} {base : Nat} {G : Nat → Prop} {w0 w : World} {hp : Hp} {ν : Nat → Value} {ρ : Operand → Value} {e : Operand → SV} {o : Oper}
/-- What a bound is, as the machine has it. -/
theorem opd_some {x : Option Operand} {n : Option Int} (h : intOpd (x.map e) = some n) (he : ∀ x, VRel hp ν (e x) (ρ x)) :
    (x = none ∧ n = none) ∨ (∃ k m, n = some m ∧ x.map ρ = some (.int k m)) := by
  cases x with
  | none => simp only [Option.map_none, intOpd, Option.some.injEq] at h; subst h; exact .inl ⟨rfl, rfl⟩
  | some y =>
    simp only [Option.map_some] at h
    unfold intOpd at h
    split at h
    · rename_i h1; simp at h1
    · rename_i k m h1
      simp only [Option.some.injEq] at h h1
      subst h
      have := he y
      rw [h1] at this
      exact .inr ⟨k, m, rfl, by rw [Option.map_some, this.int]⟩
    · simp at h
/-- The machine's bounds, out of the conditions. -/
theorem cut_bounds {lo hi : Option Operand} {lo' hi' : Option Int} {len cap : Nat} (hlo : intOpd (lo.map e) = some lo') (hhi : intOpd (hi.map e) = some hi') (he : ∀ x, VRel hp ν (e x) (ρ x)) (hcap : len ≤ cap)
    (hc : ∀ s ∈ cutC lo' hi' (len : Int), s.b = true) (b : Bool) :
    0 ≤ lo'.getD 0 ∧ lo'.getD 0 ≤ hi'.getD (len : Int) ∧ hi'.getD (len : Int) ≤ (len : Int) ∧
    (Instr.sliceBounds b len cap (lo.map ρ) (hi.map ρ) none).run P w = .ok ((lo'.getD 0).toNat, (hi'.getD (len : Int)).toNat, cap) w := by
  have hH : 0 ≤ hi'.getD (len : Int) ∧ hi'.getD (len : Int) ≤ (len : Int) := by
    cases hi' with
    | none => simp
    | some h =>
      have h1 := hc (.le 0 h) (by simp [cutC, oD_eq])
      have h2 := hc (.le h (len : Int)) (by simp [cutC, oD_eq])
      simp only [SB.b, decide_eq_true_eq] at h1 h2
      exact ⟨h1, h2⟩
  have hL : 0 ≤ lo'.getD 0 ∧ lo'.getD 0 ≤ hi'.getD (len : Int) := by
    cases lo' with
    | none => exact ⟨Int.le_refl _, hH.1⟩
    | some l =>
      have h1 := hc (.le 0 l) (by simp [cutC, oD_eq])
      have h2 := hc (.le l (hi'.getD (len : Int))) (by simp [cutC, oD_eq])
      simp only [SB.b, decide_eq_true_eq] at h1 h2
      exact ⟨h1, h2⟩
  refine ⟨hL.1, hL.2, hH.2, ?_⟩
  refine bounds_run b len cap _ _ _ _ hcap ?_ ?_ hL
  · rcases opd_some hhi he with ⟨rfl, rfl⟩ | ⟨k, m, rfl, h2⟩
    · exact .inl ⟨rfl, rfl⟩
    · exact .inr ⟨k, h2, hH.1, by have := hH.2; simp only [Option.getD_some] at this ⊢; omega⟩
  · rcases opd_some hlo he with ⟨rfl, rfl⟩ | ⟨k, m, rfl, h2⟩
    · exact .inl ⟨rfl, rfl⟩
    · exact .inr ⟨k, h2⟩
theorem grownBy_refl (w : World) (r : Option Nat) : w.grownBy w r := ⟨rfl, rfl, rfl, Nat.le_refl _, fun _ _ _ => rfl⟩
/-- A new name for memory that is read alone. -/
theorem Mem.share (h : Mem base G w0 w hp ν) {nm : Nat} (hn : hp nm = .free) {ty : Ty} {l : List ty.T} {e' : TypeId} {v : Value} (he : EntRel base hp ν w (.ro ty l e') v)
    (hsep : l ≠ [] → ∀ m, wrE (hp m) → ∀ g, blk (ν m) = some g → blk v ≠ some g) :
    Mem base G w0 w (upd hp nm (.ro ty l e')) (upd ν nm v) ∧ Ext hp ν (upd hp nm (.ro ty l e')) (upd ν nm v) := by
  have hext := Ext.new (ν := ν) hn (.ro ty l e') v
  refine ⟨⟨fun n => ?_, fun n m hne hwn hlm g hg => ?_, fun n hwn g hg => ?_, h.fr⟩, hext⟩
  · by_cases hnm : n = nm
    · subst hnm; rw [upd_same, upd_same]; exact he.mono hext
    · rw [upd_other _ _ hnm, upd_other _ _ hnm]; exact (h.ent n).mono hext
  · have hnn : n ≠ nm := fun e => by subst e; rw [upd_same] at hwn; exact hwn
    rw [upd_other _ _ hnn] at hwn hg
    by_cases hmm : m = nm
    · subst hmm
      rw [upd_same] at hlm ⊢
      exact hsep hlm n hwn g hg
    · rw [upd_other _ _ hmm] at hlm ⊢
      exact h.sep n m hne hwn hlm g hg
  · have hnn : n ≠ nm := fun e => by subst e; rw [upd_same] at hwn; exact hwn
    rw [upd_other _ _ hnn] at hwn hg
    exact h.mine n hwn g hg
theorem good_slice {t : TypeId} {x : Operand} {lo hi : Option Operand} {av : Av} {nm : Nat} {cs : List SB} {v : SV} {hp' : Hp} (ho : o.op = .slice t x lo hi none)
    (h : sliceA P av t nm hp (e x) (lo.map e) (hi.map e) = some (cs, v, hp')) (hc : ∀ s ∈ cs, s.b = true) (he : ∀ x, VRel hp ν (e x) (ρ x)) (hm : Mem base G w0 w hp ν) : Good P base G w0 hp ν ρ o w v hp' := by
  unfold sliceA at h
  split at h
  case h_2 => simp at h
  rename_i lo' hi' hlo hhi
  have hx := he x
  split at h
  · rename_i s hex
    rw [hex] at hx
    have hxv := hx.str
    split at h
    case h_2 => simp at h
    rename_i hu
    simp only [Option.some.injEq, Prod.mk.injEq] at h
    obtain ⟨rfl, rfl, rfl⟩ := h
    obtain ⟨b1, b2, b3, hb⟩ := cut_bounds (P := P) (w := w) (len := s.size) (cap := s.size) hlo hhi he (Nat.le_refl _) hc false
    refine good_same (u := .string (s.extract (lo'.getD 0).toNat (hi'.getD (s.size : Int)).toNat)) ?_ ⟨_, rfl, by rw [oD_eq, oD_eq]; rfl⟩ hm
    unfold execOp
    rw [ho]
    simp [hxv, Instr.sliceAt, Instr.slice, run_underlying hu, hb]
  · rename_i n hex
    rw [hex] at hx
    obtain ⟨hnf, hxv, A0, L0, c0, hsl⟩ := hx.sl
    split at h
    case h_2 => simp at h
    rename_i e'' hn hus
    have hu := sliceOf_some hus
    have run : ∀ (A : Option Addr) (len cap l h m : Nat), ρ x = .slice A len cap → szOf P e'' = some m → (Instr.sliceBounds true len cap (lo.map ρ) (hi.map ρ) none).run P w = .ok (l, h, cap) w →
        (execOp ρ o).run P w = .ok (.value (.slice (if cap = l then A else A.map (·.add (l * m))) (h - l) (cap - l))) w := by
      intro A len cap l h m hxa hs hb
      obtain ⟨i, hi', hn'⟩ := szOf_some hs
      unfold execOp
      rw [ho]
      simp [hxa, Instr.sliceAt, Instr.slice, run_underlying hu, hb, sizeOf, typeInfo, hi', hn']
    split at h
    · rename_i ty l e' hen
      split at h
      case h_2 => simp at h
      rename_i m hsz
      cases hmz : Nat.beq m ty.size with
      | false => rw [hmz] at h; simp at h
      | true =>
        rw [hmz] at h
        have hmz' := Nat.eq_of_beq_eq_true hmz
        subst hmz'
        simp only [cnd_true, Option.some.injEq, Prod.mk.injEq] at h
        obtain ⟨rfl, rfl, rfl⟩ := h
        obtain ⟨A, c, hv, hlc, hlm, hr⟩ := (ent_reads (.inr (.inl hen)) (hm.ent n)).out
        obtain ⟨b1, b2, b3, hb⟩ := cut_bounds (P := P) (w := w) (len := l.length) (cap := c) hlo hhi he hlc hc true
        rw [oD_eq, oD_eq]
        generalize hH : (hi'.getD (l.length : Int)).toNat = H at hb ⊢
        generalize hL : (lo'.getD 0).toNat = Lo at hb ⊢
        have hHl : H ≤ l.length := by omega
        have hLH : Lo ≤ H := by omega
        have hlen : ((l.take H).drop Lo).length = H - Lo := by simp; omega
        have hrun := run A l.length c Lo H ty.size (hxv.trans hv) hsz hb
        rw [← hlen] at hrun
        have hmem := hm.share (nm := nm) hn (ty := ty) (l := (l.take H).drop Lo) (e' := e') (v := .slice (if c = Lo then A else A.map (·.add (Lo * ty.size))) ((l.take H).drop Lo).length (c - Lo)) ?_ ?_
        · refine ⟨_, w, _, .inl hrun, ?_, hmem.1, hmem.2⟩
          exact ⟨_, rfl, by rw [upd_same]; simp, by rw [upd_same], _, _, _, rfl⟩
        · refine ⟨_, _, rfl, by omega, by omega, fun hne => ?_⟩
          have hpos : 0 < H - Lo := by rw [← hlen]; exact List.length_pos_iff.2 hne
          have hl0 : l ≠ [] := fun e => by subst e; simp at hHl; omega
          obtain ⟨a, rfl, hcells⟩ := hr hl0
          have hcl : ¬ c = Lo := by omega
          refine ⟨a.add (Lo * ty.size), by rw [if_neg hcl]; rfl, fun j u hu' => ?_⟩
          rw [Addr.add_add]
          refine hcells _ u ?_
          rw [flat_drop, flat_take, List.getElem?_drop, List.getElem?_take] at hu'
          split at hu'
          · exact hu'
          · cases hu'
        · intro hne m' hwm g hg hcon
          have hpos : 0 < H - Lo := by rw [← hlen]; exact List.length_pos_iff.2 hne
          have hl0 : l ≠ [] := fun e => by subst e; simp at hHl; omega
          obtain ⟨a, rfl, hcells⟩ := hr hl0
          have hcl : ¬ c = Lo := by omega
          rw [if_neg hcl] at hcon
          simp only [Option.map_some, blk, Option.some.injEq, add_block] at hcon
          have hne' : m' ≠ n := fun e => by subst e; rw [hen] at hwm; exact hwm
          exact hm.sep m' n hne' hwm (by rw [hen]; exact hl0) g hg (by rw [hv]; simp [blk, hcon])
    · rename_i ty l e' hen
      split at h
      case h_3 => simp at h
      case h_2 =>
        rename_i lo2 m hsz
        cases hmz : (wrOk av n && Nat.beq m ty.size) with
        | false => rw [hmz] at h; simp at h
        | true =>
          rw [hmz] at h
          rw [Bool.and_eq_true] at hmz
          have hmz' := Nat.eq_of_beq_eq_true hmz.2
          subst hmz'
          simp only [cnd_true, Option.some.injEq, Prod.mk.injEq] at h
          obtain ⟨rfl, rfl, rfl⟩ := h
          have hent := hm.ent n
          rw [hen] at hent
          have hown : w.ownsRow 0 e' ty.size (ν n) l.length (ty.flat l) := hent
          obtain ⟨A, c, hv, hlc, hlm, hr⟩ := (ent_reads (.inl hen) (hm.ent n)).out
          obtain ⟨b1, b2, b3, hb⟩ := cut_bounds (P := P) (w := w) (len := l.length) (cap := c) hlo hhi he hlc hc true
          rw [oD_eq]
          simp only [Option.getD_some] at b1 b2 hb
          generalize hH : (hi'.getD (l.length : Int)).toNat = H at hb ⊢
          generalize hL : lo2.toNat = Lo at hb ⊢
          have hHl : H ≤ l.length := by omega
          have hLH : Lo ≤ H := by omega
          have hlen : ((l.take H).drop Lo).length = H - Lo := by simp; omega
          have hrun := run A l.length c Lo H ty.size (hxv.trans hv) hsz hb
          rw [← hlen] at hrun
          have hmem := hm.turn (w' := w) (n := n) (nm := nm) hn hen (e := .ex ty ((l.take H).drop Lo) e') (v := .slice (if c = Lo then A else A.map (·.add (Lo * ty.size))) ((l.take H).drop Lo).length (c - Lo)) (grownBy_refl w _) (fun g hg => ?_) ?_ (by simp)
          · refine ⟨_, w, _, .inl hrun, ?_, hmem.1, hmem.2⟩
            exact ⟨_, rfl, by rw [upd_same]; simp, by rw [upd_same], _, _, _, rfl⟩
          · right
            rw [hv]
            cases A with
            | none => split at hg <;> simp [blk] at hg
            | some a => split at hg <;> simpa [blk, add_block] using hg
          · rcases hown.2 with ⟨h1, h2⟩ | ⟨g, cap, cur, h1, hbg, hheap, hnc, hcm, hcs, htake⟩
            · rw [hv] at h1
              simp only [Value.slice.injEq] at h1
              obtain ⟨rfl, h3, rfl⟩ := h1
              have hl0 : l = [] := List.length_eq_zero_iff.1 h2
              subst hl0
              left
              simp
            · right
              rw [hv] at h1
              simp only [Value.slice.injEq, true_and] at h1
              obtain ⟨rfl, rfl⟩ := h1
              have hmulc : l.length * ty.size ≤ c * ty.size := Nat.mul_le_mul_right _ hnc
              by_cases hcl : c = Lo
              · rw [if_pos hcl]
                have h0 : H - Lo = 0 := by omega
                refine ⟨g, 0, c - Lo, cur, e', (0, 0), rfl, by omega, by omega, hheap, by rw [hlen, h0]; omega, .inl (Nat.le_refl _), fun j u hu => ?_⟩
                have : (l.take H).drop Lo = [] := List.length_eq_zero_iff.1 (by omega)
                rw [this] at hu
                simp [Ty.flat] at hu
              · rw [if_neg hcl]
                refine ⟨g, Lo * ty.size, c - Lo, cur, e', (0, 0), by rw [Option.map_some, Addr.add_mid, Nat.zero_add], by omega, by omega, hheap, ?_, .inl (Nat.le_refl _), fun j u hu => ?_⟩
                · rw [hlen, ← Nat.add_mul, hcs]
                  exact Nat.mul_le_mul_right _ (by omega)
                · rw [flat_drop, flat_take, List.getElem?_drop, List.getElem?_take] at hu
                  split at hu
                  · rw [← htake, List.getElem?_take] at hu
                    split at hu
                    · simpa using hu
                    · cases hu
                  · cases hu
      rename_i m hsz
      cases hmz : (wrOk av n && Nat.beq m ty.size) with
      | false => rw [hmz] at h; simp at h
      | true =>
        rw [hmz] at h
        rw [Bool.and_eq_true] at hmz
        have hmz' := Nat.eq_of_beq_eq_true hmz.2
        subst hmz'
        simp only [cnd_true, Option.some.injEq, Prod.mk.injEq] at h
        obtain ⟨rfl, rfl, rfl⟩ := h
        have hent := hm.ent n
        rw [hen] at hent
        have hown : w.ownsRow 0 e' ty.size (ν n) l.length (ty.flat l) := hent
        obtain ⟨A, c, hv, hlc, hlm, hr⟩ := (ent_reads (.inl hen) (hm.ent n)).out
        obtain ⟨b1, b2, b3, hb⟩ := cut_bounds (P := P) (w := w) (len := l.length) (cap := c) hlo hhi he hlc hc true
        rw [oD_eq]
        generalize hH : (hi'.getD (l.length : Int)).toNat = H at hb ⊢
        have hHl : H ≤ l.length := by omega
        have hrun := run A l.length c 0 H ty.size (hxv.trans hv) hsz (by simpa using hb)
        have hA : (if c = 0 then A else A.map (·.add (0 * ty.size))) = A := by
          split
          · rfl
          · cases A <;> simp [Addr.add]
        rw [hA, Nat.sub_zero, Nat.sub_zero] at hrun
        have hlen : (l.take H).length = H := by simp; omega
        have hmem := hm.turn (w' := w) (n := n) (nm := nm) hn hen (e := .row ty (l.take H) e') (v := .slice A H c) (grownBy_refl w _) (fun g hg => ?_) ?_ (by simp)
        · refine ⟨_, w, _, .inl hrun, ?_, hmem.1, hmem.2⟩
          exact ⟨_, rfl, by rw [upd_same]; simp, by rw [upd_same], _, _, _, rfl⟩
        · right
          rw [hv]
          cases A with
          | none => simp [blk] at hg
          | some a => simpa [blk] using hg
        · show w.ownsRow 0 e' ty.size (.slice A H c) (l.take H).length (ty.flat (l.take H))
          rw [hlen, flat_take]
          refine ⟨by rw [List.length_take, Ty.flat_len, Nat.min_eq_left (Nat.mul_le_mul_right _ hHl)], ?_⟩
          rcases hown.2 with ⟨h1, h2⟩ | ⟨g, cap, cur, h1, hbg, hheap, hnc, hcm, hcs, htake⟩
          · rw [hv] at h1
            simp only [Value.slice.injEq] at h1
            obtain ⟨rfl, h3, rfl⟩ := h1
            left
            have : H = 0 := by omega
            subst this
            exact ⟨rfl, rfl⟩
          · right
            rw [hv] at h1
            simp only [Value.slice.injEq, true_and] at h1
            obtain ⟨rfl, rfl⟩ := h1
            refine ⟨g, c, cur, rfl, hbg, hheap, by omega, hcm, hcs, ?_⟩
            rw [← htake, List.take_take, Nat.min_eq_left (Nat.mul_le_mul_right _ hHl)]
    · simp at h
  · simp at h
theorem good_make {t el : TypeId} {n c : Operand} {a b : Int} {ka kb : IntKind} {ty : Ty} {by_ nm : Nat} {zg : Bool} {z : List SC} (ho : o.op = .makeSlice t n c) (hn : VRel hp ν (.a false [.int ka a]) (ρ n)) (hc : VRel hp ν (.a false [.int kb b]) (ρ c)) (hu : sliceOf P t = some el) (hty : elTy P el = some ty)
    (hby : (P.info? el).map (·.bytes) = some by_) (hf : hp nm = .free) (hz : zeroC P el = some (zg, z)) (hzE : zEq ty z = some []) (hb0 : Nat.blt 0 by_ = true) (h1 : a = b) (h2 : 0 ≤ a) (h3 : a * by_ ≤ 140737488355328) (hm : Mem base G w0 w hp ν) :
    Good P base G w0 hp ν ρ o w (one (.sl nm)) (upd hp nm (.row ty (List.replicate a.toNat ty.zero) el)) := by
  subst h1
  have hus := sliceOf_some hu
  obtain ⟨i, hi, hsz⟩ := elTy_some hty
  obtain ⟨i', zv, hi', hzv, hrel⟩ := zeroC_rel hz
  rw [hi] at hi'
  injection hi' with hi'
  subst hi'
  rw [hi] at hby
  simp only [Option.map_some, Option.some.injEq] at hby
  subst hby
  obtain ⟨us, hus', hnil⟩ := zEq_rel (hp := hp) (ν := ν) ty hzE (hrel hp ν).cells
  have hus0 : us = [] := by
    cases us with
    | nil => rfl
    | cons _ _ => exact hnil.elim
  subst hus0
  rw [List.append_nil] at hus'
  have hpos : 1 ≤ i.bytes := Nat.le_of_ble_eq_true hb0
  have hale : a ≤ 140737488355328 := by
    have : a * 1 ≤ a * (i.bytes : Int) := Int.mul_le_mul_of_nonneg_left (by omega) h2
    omega
  have hr := run_make (P := P) w t el i zv hus hi hzv ka kb a a h2 (Int.le_refl _) (by rw [Int.mul_comm]; omega) (by omega)
  refine good_row (ty := ty) (l := List.replicate a.toNat ty.zero) (cap := a.toNat) (cur := madeCells zv.cells (a.toNat * i.size)) hf ?_ (by simp) (by simp only [maxLen]; omega) (by rw [size_madeCells, hsz]) ?_ hm
  · unfold execOp
    rw [ho]
    simp only [hn.int, hc.int, Sem.run_bind, hr, Result.andThen_ok, List.length_replicate]
    rfl
  · rw [hsz, flat_replicate ty zv.cells hus' a.toNat, List.take_of_length_le (by rw [Ty.flat_len]; simp)]
theorem foldI_run {f : Int → Int → Int} {g : Value → Value → Sem Value} {k : IntKind} (hg : ∀ (a b : Int), (g (.int k a) (.int k b)) = pure (.int k (f a b))) : ∀ (xs : List SV) (vs : List Value) (a n : Int),
    foldI f k a xs = some n → xs.length = vs.length → (∀ (j : Nat) (x : SV), xs[j]? = some x → ∃ v, vs[j]? = some v ∧ VRel hp ν x v) → (vs.foldlM g (.int k a)).run P w = .ok (.int k n) w
  | [], [], a, n, h, _, _ => by simp only [foldI, Option.some.injEq] at h; subst h; simp
  | x :: xs, v :: vs, a, n, h, hl, hr => by
    unfold foldI at h
    split at h
    · rename_i h1; simp at h1
    · rename_i a' k' b r h1
      simp only [List.cons.injEq] at h1
      obtain ⟨rfl, rfl⟩ := h1
      cases hk : keq k k' with
      | false => rw [hk] at h; simp at h
      | true =>
        rw [hk] at h
        have := keq_eq hk
        subst this
        obtain ⟨v', hv', hx⟩ := hr 0 (.a false [.int k b]) (by simp)
        simp only [List.getElem?_cons_zero, Option.some.injEq] at hv'
        subst hv'
        have := hx.int
        subst this
        simp only [List.foldlM_cons, hg, pure_bind]
        exact foldI_run hg xs vs _ n h (by simpa using hl) (fun j x hj => by
          obtain ⟨u, hu, hux⟩ := hr (j + 1) x (by simpa using hj)
          exact ⟨u, by simpa using hu, hux⟩)
    · simp at h
  | [], _ :: _, _, _, _, hl, _ => by simp at hl
  | _ :: _, [], _, _, _, hl, _ => by simp at hl
end
end Go.Sx
