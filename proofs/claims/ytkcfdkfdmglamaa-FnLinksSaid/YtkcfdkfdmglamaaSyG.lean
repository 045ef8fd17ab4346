/- Slices: read, cut, made, appended to. -/
import Derived.Test.YtkcfdkfdmglamaaSyF
set_option linter.unusedVariables false
set_option linter.unusedSimpArgs false
namespace Go.Sx
open Go.RowKit (wrap64)

theorem flat_int (k : IntKind) (l : List Int) : Ty.flat (.int k) l = l.map (Value.int k) := by
  induction l with
  | nil => rfl
  | cons x l ih =>
    have : Ty.flat (.int k) (x :: l) = Value.int k x :: Ty.flat (.int k) l := rfl
    exact this.trans (congrArg (Value.int k x :: ·) ih)
theorem bstr_eq : ∀ (l : List Int) (s : ByteArray), l.foldl (fun r n => r.push (UInt8.ofNat n.toNat)) s = ⟨s.data ++ (l.map fun n => UInt8.ofNat n.toNat).toArray⟩
  | [], s => by simp
  | x :: l, s => by
    rw [List.foldl_cons, bstr_eq l]
    simp only [ByteArray.push, List.map_cons]
    congr 1
    apply Array.ext'
    simp
theorem bytes_empty {s : ByteArray} (h : s.size = 0) : s = ByteArray.empty := by
  obtain ⟨⟨l⟩⟩ := s
  have : l = [] := List.length_eq_zero_iff.1 (by simpa [ByteArray.size] using h)
  subst this
  rfl
theorem zEq_rel {hp : Hp} {ν : Nat → Value} : ∀ (t : Ty) {xs r : List SC} {vs : List Value}, zEq t xs = some r → CsRel hp ν xs vs → ∃ us, vs = t.cells t.zero ++ us ∧ CsRel hp ν r us
  | .int k, xs, r, vs, h, hr => by
    match xs, vs, hr with
    | .int k' n :: xs, v :: vs, hr =>
      simp only [zEq] at h
      cases hc : (keq k k' && decide (n = 0)) with
      | false => rw [hc] at h; simp at h
      | true =>
        rw [hc] at h
        simp only [cnd_true, Option.some.injEq] at h
        subst h
        rw [Bool.and_eq_true] at hc
        have h1 := keq_eq hc.1
        have h2 := of_decide_eq_true hc.2
        subst h1 h2
        exact ⟨vs, by rw [hr.1]; rfl, hr.2⟩
    | [], _, _ => simp [zEq] at h
    | .any :: _, _, _ | .bool _ :: _, _, _ | .str _ :: _, _, _ | .ptr _ _ :: _, _, _ | .nilp :: _, _, _ | .sl _ :: _, _, _ | .nils :: _, _, _ | .ep _ _ _ _ :: _, _, _ => simp [zEq] at h
  | .bool, xs, r, vs, h, hr => by
    match xs, vs, hr with
    | .bool (.lit false) :: xs, v :: vs, hr =>
      simp only [zEq, Option.some.injEq] at h
      subst h
      exact ⟨vs, by rw [hr.1]; rfl, hr.2⟩
    | [], _, _ => simp [zEq] at h
    | .bool (.lit true) :: _, _, _ | .bool (.lt _ _) :: _, _, _ | .bool (.le _ _) :: _, _, _ | .bool (.eq _ _) :: _, _, _ | .bool (.not _) :: _, _, _ | .bool (.and _ _) :: _, _, _ | .bool (.v _) :: _, _, _ | .bool (.se _ _) :: _, _, _ => simp [zEq] at h
    | .any :: _, _, _ | .int _ _ :: _, _, _ | .str _ :: _, _, _ | .ptr _ _ :: _, _, _ | .nilp :: _, _, _ | .sl _ :: _, _, _ | .nils :: _, _, _ | .ep _ _ _ _ :: _, _, _ => simp [zEq] at h
  | .str, xs, r, vs, h, hr => by
    match xs, vs, hr with
    | .str s :: xs, v :: vs, hr =>
      simp only [zEq] at h
      cases hc : Nat.beq s.size 0 with
      | false => rw [hc] at h; simp at h
      | true =>
        rw [hc] at h
        simp only [cnd_true, Option.some.injEq] at h
        subst h
        have := bytes_empty (Nat.eq_of_beq_eq_true hc)
        subst this
        exact ⟨vs, by rw [hr.1]; rfl, hr.2⟩
    | [], _, _ => simp [zEq] at h
    | .any :: _, _, _ | .int _ _ :: _, _, _ | .bool _ :: _, _, _ | .ptr _ _ :: _, _, _ | .nilp :: _, _, _ | .sl _ :: _, _, _ | .nils :: _, _, _ | .ep _ _ _ _ :: _, _, _ => simp [zEq] at h
  | .pair a b, xs, r, vs, h, hr => by
    simp only [zEq] at h
    split at h
    · rename_i r1 h1
      obtain ⟨us, rfl, hu⟩ := zEq_rel a h1 hr
      obtain ⟨us', rfl, hu'⟩ := zEq_rel b h hu
      exact ⟨us', by simp [Ty.cells, Ty.zero], hu'⟩
    · simp at h
theorem flat_replicate (t : Ty) (z : Array Value) (hz : z.toList = t.cells t.zero) (n : Nat) : (madeCells z (n * t.size)).toList = t.flat (List.replicate n t.zero) := by
  have hs : z.size = t.size := by rw [← Array.length_toList, hz, Ty.cells_len]
  have hp := Ty.size_pos t
  apply List.ext_getElem?
  intro j
  by_cases hj : j < n * t.size
  · have hd : j / t.size < n := by rw [Nat.div_lt_iff_lt_mul hp]; exact hj
    have hm : j % t.size < t.size := Nat.mod_lt _ hp
    have hj2 : j = (j / t.size) * t.size + j % t.size := by rw [Nat.mul_comm]; exact (Nat.div_add_mod j t.size).symm
    have hr : (t.flat (List.replicate n t.zero))[j]? = (t.cells t.zero)[j % t.size]? := by
      conv => lhs; rw [hj2]
      rw [Ty.flat_get t _ (j / t.size) (j % t.size) (by simpa using hd) hm, List.getElem_replicate]
    rw [hr, ← hz]
    have hlt : j % z.size < z.size := by rw [hs]; exact hm
    have e : (madeCells z (n * t.size)).toList[j]? = some z[j % z.size]! := by
      simp [madeCells, hj]
    rw [e, ← hs, Array.getElem?_toList, Array.getElem?_eq_getElem hlt, getElem!_pos z _ hlt]
  · rw [List.getElem?_eq_none (by rw [Array.length_toList, size_madeCells]; omega), List.getElem?_eq_none (by rw [Ty.flat_len]; simp; omega)]
section
variable {P : Program} {base : Nat} {G : Nat → Prop} {w0 w : World} {hp : Hp} {ν : Nat → Value} {ρ : Operand → Value} {e : Operand → SV} {o : Oper}
/-- What a slice that is read says of the machine's. -/
structure Reads (w : World) (ty : Ty) (l : List ty.T) (v : Value) : Prop where
  out : ∃ A c, v = .slice A l.length c ∧ l.length ≤ c ∧ l.length ≤ maxLen ∧ (l ≠ [] → ∃ a, A = some a ∧ ∀ j u, (ty.flat l)[j]? = some u → w.cell? (a.add j) = some u)
theorem ent_reads {n : Nat} {ty : Ty} {l : List ty.T} {e' : TypeId} (hen : hp n = .row ty l e' ∨ hp n = .ro ty l e' ∨ hp n = .ex ty l e') (h : EntRel base hp ν w (hp n) (ν n)) : Reads w ty l (ν n) := by
  rcases hen with hh | hh | hh
  · rw [hh] at h
    have h' : w.ownsRow 0 e' ty.size (ν n) l.length (ty.flat l) := h
    rcases h'.2 with ⟨h1, h2⟩ | ⟨g, cap, cur, h1, _, _, h2, h3, _⟩
    · refine ⟨none, 0, by rw [h1, h2], by omega, by omega, fun hl => absurd (List.length_eq_zero_iff.1 h2) hl⟩
    · refine ⟨_, cap, h1, h2, by omega, fun _ => ⟨_, rfl, fun j u hu => ?_⟩⟩
      exact h'.cells (g := g) (by rw [h1]; rfl) j u hu
  · rw [hh] at h
    exact ⟨h⟩
  · rw [hh] at h
    rcases h with ⟨h1, h2⟩ | ⟨g, off, c, vs, e2, fz, h1, h2, h3, h4, h5, h6, h7⟩
    · subst h2
      exact ⟨none, 0, h1, Nat.le_refl _, Nat.zero_le _, fun hl => absurd rfl hl⟩
    · refine ⟨_, c, h1, h2, h3, fun _ => ⟨_, rfl, fun j u hu => ?_⟩⟩
      rw [Addr.add_mid, cell_of_row w g _ vs e2 fz h4]
      exact h7 j u hu
theorem readL_rel {av : Av} {ty : Ty} {x : SC} {l : List ty.T} {v : Value} (h : readL av hp ty x = some l) (hx : CRel hp ν x v) (hm : Mem base G w0 w hp ν) : Reads w ty l v := by
  unfold readL at h
  split at h
  · simp only [Option.some.injEq] at h
    subst h
    cases hx
    exact ⟨none, 0, rfl, by simp, by simp, by simp⟩
  · rename_i n
    obtain ⟨_, rfl, _⟩ := hx
    split at h
    · rename_i t l' e' hen
      cases hr : rdOk av n with
      | false => rw [hr] at h; simp at h
      | true =>
        rw [hr] at h
        simp only [cnd_true] at h
        split at h
        · rename_i heq _
          simp only [Option.some.injEq] at h
          subst heq
          subst h
          exact ent_reads (.inl hen) (hm.ent n)
        · simp at h
    · rename_i t l' e' hen
      split at h
      · rename_i heq _
        simp only [Option.some.injEq] at h
        subst heq
        subst h
        exact ent_reads (.inr (.inl hen)) (hm.ent n)
      · simp at h
    · rename_i t l' e' hen
      cases hr : rdOk av n with
      | false => rw [hr] at h; simp at h
      | true =>
        rw [hr] at h
        simp only [cnd_true] at h
        split at h
        · rename_i heq _
          simp only [Option.some.injEq] at h
          subst heq
          subst h
          exact ent_reads (.inr (.inr hen)) (hm.ent n)
        · simp at h
    · simp at h
  · simp at h
theorem lenA_run {av : Av} {t : TypeId} {x : SV} {n : Int} {v : Value} (h : lenA P av hp t x = some n) (hx : VRel hp ν x v) (hm : Mem base G w0 w hp ν) (ty : TypeId) : (Builtin.len_ #[t] ty #[v]).run P w = .ok (.int .i64 n) w := by
  unfold lenA at h
  split at h
  · rename_i s
    obtain rfl := hx.str
    split at h
    · rename_i hu
      simp only [Option.some.injEq] at h
      subst h
      simp [Builtin.len_, run_underlying hu, goInt]
    · simp at h
  · obtain rfl := hx.nils
    split at h
    · rename_i e' hu
      simp only [Option.some.injEq] at h
      subst h
      simp [Builtin.len_, run_underlying hu, goInt]
    · simp at h
  · rename_i n'
    obtain ⟨_, rfl, _⟩ := hx.sl
    split at h
    · rename_i e' hu
      split at h
      · rename_i ty' l e'' hen
        cases hr : rdOk av n' with
        | false => rw [hr] at h; simp at h
        | true =>
          rw [hr] at h
          simp only [cnd_true, Option.some.injEq] at h
          subst h
          obtain ⟨A, c, hv, _⟩ := (ent_reads (.inl hen) (hm.ent n')).out
          rw [hv]
          simp [Builtin.len_, run_underlying hu, goInt]
      · rename_i ty' l e'' hen
        simp only [Option.some.injEq] at h
        subst h
        obtain ⟨A, c, hv, _⟩ := (ent_reads (.inr (.inl hen)) (hm.ent n')).out
        rw [hv]
        simp [Builtin.len_, run_underlying hu, goInt]
      · rename_i ty' l e'' hen
        cases hr : rdOk av n' with
        | false => rw [hr] at h; simp at h
        | true =>
          rw [hr] at h
          simp only [cnd_true, Option.some.injEq] at h
          subst h
          obtain ⟨A, c, hv, _⟩ := (ent_reads (.inr (.inr hen)) (hm.ent n')).out
          rw [hv]
          simp [Builtin.len_, run_underlying hu, goInt]
      · simp at h
    · simp at h
  · simp at h
theorem run_bstr {l : List Int} {v : Value} (h : Reads w (.int .u8) l v) : (Conv.bytesToString v).run P w = .ok (.string (bstr l)) w := by
  obtain ⟨A, c, rfl, _, _, hr⟩ := h.out
  by_cases hl : l = []
  · subst hl
    cases A with
    | none =>
      have : (Conv.bytesToString (.slice none 0 c)).run P w = .ok (.string ByteArray.empty) w := by simp [Conv.bytesToString]
      exact this
    | some a =>
      have := run_bytesToString (P := P) w a 0 c [] (by simp [loadCells, loadCellsFrom])
      exact this
  · obtain ⟨a, rfl, hcells⟩ := hr hl
    have hl2 := run_loadCells_list (P := P) w a (l.map (Value.int .u8)) (fun j u hu => hcells j u (by rw [flat_int]; exact hu))
    rw [List.length_map] at hl2
    have := run_bytesToString (P := P) w a l.length c l hl2
    refine this.trans ?_
    rw [bstr_eq l]
    simp [bstr]
/-! ### bounds of a cut -/
theorem bounds_run (b : Bool) (len cap : Nat) (lo hi : Option Value) (l h : Int) (hcap : len ≤ cap)
    (hhi : (hi = none ∧ h = (len : Int)) ∨ (∃ k, hi = some (.int k h) ∧ 0 ≤ h ∧ h ≤ (cap : Int))) (hlo : (lo = none ∧ l = 0) ∨ (∃ k, lo = some (.int k l))) (hlh : 0 ≤ l ∧ l ≤ h) :
    (Instr.sliceBounds b len cap lo hi none).run P w = .ok (l.toNat, h.toNat, cap) w := by
  rcases hhi with ⟨rfl, rfl⟩ | ⟨k, rfl, h0, h1⟩
  · rcases hlo with ⟨rfl, rfl⟩ | ⟨k', rfl⟩
    · simp [Instr.sliceBounds]
    · have : l ≤ (len : Int) := hlh.2
      simp [Instr.sliceBounds, Instr.sliceBound, asIntOf, hlh.1, this]
  · have e1 : (Instr.sliceBound (.int k h) cap (if b then .sliceAcap else .sliceAlen)).run P w = .ok h.toNat w := by
      simp [Instr.sliceBound, asIntOf, h0, h1]
    rcases hlo with ⟨rfl, rfl⟩ | ⟨k', rfl⟩
    · simp [Instr.sliceBounds, e1]
    · have e2 : (Instr.sliceBound (.int k' l) h.toNat .sliceB).run P w = .ok l.toNat w := by
        have : l ≤ ((h.toNat : Nat) : Int) := by omega
        simp only [Instr.sliceBound, asIntOf, Sem.run_bind, Sem.run_pure, Result.andThen_ok]
        rw [if_pos ⟨hlh.1, this⟩]
        rfl
      simp [Instr.sliceBounds, e1, e2]
end
end Go.Sx
