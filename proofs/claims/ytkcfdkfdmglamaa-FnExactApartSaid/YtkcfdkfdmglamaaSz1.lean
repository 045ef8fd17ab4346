/- A symbolic executor of the model's code, run by the kernel, and that it is sound; plain lemmas. -/
import Derived.Test.YtkcfdkfdmglamaaSz0
import Derived.Laws.IdiomStrings
import Derived.Orders
/- Slices: read, cut, made, appended to. -/
set_option linter.unusedVariables false
set_option linter.unusedSimpArgs false
namespace Go.Sx
open Go.RowKit (wrap64)

theorem flat_int (k : IntKind) (l : List Int) : Ty.flat (.int k) l = l.map (Value.int k) := by
  induction l with
  | nil => rfl
  | cons x l ih =>
    have : Ty.flat (.int k) (x :: l) = Value.int k x :: Ty.flat (.int k) l := rfl
    exact this.trans (congrArg (Value.int k x :: ·) ih)
theorem bstr_eq : ∀ (l : List Int) (s : ByteArray), l.foldl (fun r n => r.push (UInt8.ofNat n.toNat)) s = ⟨s.data ++ (l.map fun n => UInt8.ofNat n.toNat).toArray⟩
  | [], s => by simp
  | x :: l, s => by
    rw [List.foldl_cons, bstr_eq l]
    simp only [ByteArray.push, List.map_cons]
    congr 1
    apply Array.ext'
    simp
theorem bytes_empty {s : ByteArray} (h : s.size = 0) : s = ByteArray.empty := by
  obtain ⟨⟨l⟩⟩ := s
  have : l = [] := List.length_eq_zero_iff.1 (by simpa [ByteArray.size] using h)
  subst this
  rfl
theorem zEq_rel {hp : Hp} {ν : Nat → Value} : ∀ (t : Ty) {xs r : List SC} {vs : List Value}, zEq t xs = some r → CsRel hp ν xs vs → ∃ us, vs = t.cells t.zero ++ us ∧ CsRel hp ν r us
  | .int k, xs, r, vs, h, hr => by
    match xs, vs, hr with
    | .int k' n :: xs, v :: vs, hr =>
      simp only [zEq] at h
      cases hc : (keq k k' && decide (n = 0)) with
      | false => rw [hc] at h; simp at h
      | true =>
        rw [hc] at h
        simp only [cnd_true, Option.some.injEq] at h
        subst h
        rw [Bool.and_eq_true] at hc
        have h1 := keq_eq hc.1
        have h2 := of_decide_eq_true hc.2
        subst h1 h2
        exact ⟨vs, by rw [hr.1]; rfl, hr.2⟩
    | [], _, _ => simp [zEq] at h
    | .any :: _, _, _ | .bool _ :: _, _, _ | .str _ :: _, _, _ | .ptr _ _ :: _, _, _ | .nilp :: _, _, _ | .sl _ :: _, _, _ | .nils :: _, _, _ | .ep _ _ _ _ :: _, _, _ | .pj _ _ _ _ :: _, _, _ => simp [zEq] at h
  | .bool, xs, r, vs, h, hr => by
    match xs, vs, hr with
    | .bool (.lit false) :: xs, v :: vs, hr =>
      simp only [zEq, Option.some.injEq] at h
      subst h
      exact ⟨vs, by rw [hr.1]; rfl, hr.2⟩
    | [], _, _ => simp [zEq] at h
    | .bool (.lit true) :: _, _, _ | .bool (.lt _ _) :: _, _, _ | .bool (.le _ _) :: _, _, _ | .bool (.eq _ _) :: _, _, _ | .bool (.not _) :: _, _, _ | .bool (.and _ _) :: _, _, _ | .bool (.v _) :: _, _, _ | .bool (.se _ _) :: _, _, _ => simp [zEq] at h
    | .any :: _, _, _ | .int _ _ :: _, _, _ | .str _ :: _, _, _ | .ptr _ _ :: _, _, _ | .nilp :: _, _, _ | .sl _ :: _, _, _ | .nils :: _, _, _ | .ep _ _ _ _ :: _, _, _ | .pj _ _ _ _ :: _, _, _ => simp [zEq] at h
  | .str, xs, r, vs, h, hr => by
    match xs, vs, hr with
    | .str s :: xs, v :: vs, hr =>
      simp only [zEq] at h
      cases hc : Nat.beq s.size 0 with
      | false => rw [hc] at h; simp at h
      | true =>
        rw [hc] at h
        simp only [cnd_true, Option.some.injEq] at h
        subst h
        have := bytes_empty (Nat.eq_of_beq_eq_true hc)
        subst this
        exact ⟨vs, by rw [hr.1]; rfl, hr.2⟩
    | [], _, _ => simp [zEq] at h
    | .any :: _, _, _ | .int _ _ :: _, _, _ | .bool _ :: _, _, _ | .ptr _ _ :: _, _, _ | .nilp :: _, _, _ | .sl _ :: _, _, _ | .nils :: _, _, _ | .ep _ _ _ _ :: _, _, _ | .pj _ _ _ _ :: _, _, _ => simp [zEq] at h
  | .pair a b, xs, r, vs, h, hr => by
    simp only [zEq] at h
    split at h
    · rename_i r1 h1
      obtain ⟨us, rfl, hu⟩ := zEq_rel a h1 hr
      obtain ⟨us', rfl, hu'⟩ := zEq_rel b h hu
      exact ⟨us', by simp [Ty.cells, Ty.zero], hu'⟩
    · simp at h
theorem flat_replicate (t : Ty) (z : Array Value) (hz : z.toList = t.cells t.zero) (n : Nat) : (madeCells z (n * t.size)).toList = t.flat (List.replicate n t.zero) := by
  have hs : z.size = t.size := by rw [← Array.length_toList, hz, Ty.cells_len]
  have hp := Ty.size_pos t
  apply List.ext_getElem?
  intro j
  by_cases hj : j < n * t.size
  · have hd : j / t.size < n := by rw [Nat.div_lt_iff_lt_mul hp]; exact hj
    have hm : j % t.size < t.size := Nat.mod_lt _ hp
    have hj2 : j = (j / t.size) * t.size + j % t.size := by rw [Nat.mul_comm]; exact (Nat.div_add_mod j t.size).symm
    have hr : (t.flat (List.replicate n t.zero))[j]? = (t.cells t.zero)[j % t.size]? := by
      conv => lhs; rw [hj2]
      rw [Ty.flat_get t _ (j / t.size) (j % t.size) (by simpa using hd) hm, List.getElem_replicate]
    rw [hr, ← hz]
    have hlt : j % z.size < z.size := by rw [hs]; exact hm
    have e : (madeCells z (n * t.size)).toList[j]? = some z[j % z.size]! := by
      simp [madeCells, hj]
    rw [e, ← hs, Array.getElem?_toList, Array.getElem?_eq_getElem hlt, getElem!_pos z _ hlt]
  · rw [List.getElem?_eq_none (by rw [Array.length_toList, size_madeCells]; omega), List.getElem?_eq_none (by rw [Ty.flat_len]; simp; omega)]
theorem zEqN_rel {hp : Hp} {ν : Nat → Value} : ∀ (t : NT) {xs r : List SC} {vs : List Value}, zEqN t xs = some r → CsRel hp ν xs vs → ∃ us vr, vs = us ++ vr ∧ (∀ w B, NCells w B t t.zero us) ∧ CsRel hp ν r vr
  | .f t, xs, r, vs, h, hr => by
    obtain ⟨us, rfl, hu⟩ := zEq_rel t h hr
    exact ⟨_, us, rfl, fun w B => rfl, hu⟩
  | .sl t, xs, r, vs, h, hr => by
    match xs, vs, hr with
    | .nils :: xs, v :: vs, hr =>
      simp only [zEqN, Option.some.injEq] at h
      subst h
      exact ⟨[v], vs, rfl, fun w B => ⟨v, rfl, none, 0, hr.1, Nat.le_refl _, Nat.zero_le _, fun q => absurd rfl q⟩, hr.2⟩
    | [], _, _ => simp [zEqN] at h
    | .any :: _, _, _ | .int _ _ :: _, _, _ | .bool _ :: _, _, _ | .str _ :: _, _, _ | .ptr _ _ :: _, _, _ | .nilp :: _, _, _ | .sl _ :: _, _, _ | .ep _ _ _ _ :: _, _, _ | .pj _ _ _ _ :: _, _, _ => simp [zEqN] at h
  | .pair a b, xs, r, vs, h, hr => by
    simp only [zEqN] at h
    split at h
    · rename_i r1 h1
      obtain ⟨us, vr, rfl, k1, hu⟩ := zEqN_rel a h1 hr
      obtain ⟨us', vr', rfl, k2, hu'⟩ := zEqN_rel b h hu
      exact ⟨us ++ us', vr', by simp, fun w B => ⟨us, us', rfl, k1 w B, k2 w B⟩, hu'⟩
    · simp at h
theorem made_succ (z : Array Value) (h0 : 0 < z.size) (n : Nat) : (madeCells z ((n + 1) * z.size)).toList = z.toList ++ (madeCells z (n * z.size)).toList := by
  have hm : (n + 1) * z.size = n * z.size + z.size := by rw [Nat.add_mul, Nat.one_mul]
  apply List.ext_getElem?
  intro j
  by_cases hj : j < (n + 1) * z.size
  · have e : (madeCells z ((n + 1) * z.size)).toList[j]? = some z[j % z.size]! := by simp [madeCells, hj]
    rw [e]
    by_cases hz : j < z.size
    · rw [List.getElem?_append_left (by simpa using hz), Array.getElem?_toList, Nat.mod_eq_of_lt hz, Array.getElem?_eq_getElem hz, getElem!_pos z _ hz]
    · have hj2 : j - z.size < n * z.size := by omega
      have e2 : (madeCells z (n * z.size)).toList[j - z.size]? = some z[(j - z.size) % z.size]! := by simp [madeCells, hj2]
      rw [List.getElem?_append_right (by rw [Array.length_toList]; omega), Array.length_toList, e2]
      have : j % z.size = (j - z.size) % z.size := Nat.mod_eq_sub_mod (by omega)
      rw [this]
  · rw [List.getElem?_eq_none (by rw [Array.length_toList, size_madeCells]; omega), List.getElem?_eq_none (by rw [List.length_append, Array.length_toList, Array.length_toList, size_madeCells]; omega)]
theorem nflat_made {w : World} {B : Nat → Prop} (t : NT) (z : Array Value) (hz : NCells w B t t.zero z.toList) : ∀ n : Nat, NFlat w B t (List.replicate n t.zero) (madeCells z (n * z.size)).toList
  | 0 => by
    have e0 : (madeCells z (0 * z.size)).toList = [] := by rw [Nat.zero_mul]; simp [madeCells]
    rw [e0]
    exact rfl
  | n + 1 => by
    have hs : 0 < z.size := by rw [← Array.length_toList, NCells.len t _ _ hz]; exact NT.size_pos t
    rw [made_succ z hs n, List.replicate_succ]
    exact ⟨_, _, rfl, hz, nflat_made t z hz n⟩
section
variable {P : Program} {base : Nat} {G : Nat → Prop} {w0 w : World} {hp : Hp} {ν : Nat → Value} {ρ : Operand → Value} {e : Operand → SV} {o : Oper}
/-- What a slice that is read says of the machine's. -/
structure Reads (w : World) (ty : Ty) (l : List ty.T) (v : Value) : Prop where
  out : ∃ A c, v = .slice A l.length c ∧ l.length ≤ c ∧ l.length ≤ maxLen ∧ (l ≠ [] → ∃ a, A = some a ∧ ∀ j u, (ty.flat l)[j]? = some u → w.cell? (a.add j) = some u)
theorem ent_reads {n : Nat} {ty : Ty} {l : List ty.T} {e' : TypeId} (hen : hp n = .row ty l e' ∨ hp n = .ro ty l e' ∨ hp n = .ex ty l e') (h : EntRel base hp ν w (hp n) (ν n)) : Reads w ty l (ν n) := by
  rcases hen with hh | hh | hh
  · rw [hh] at h
    have h' : w.ownsRow 0 e' ty.size (ν n) l.length (ty.flat l) := h
    rcases h'.2 with ⟨h1, h2⟩ | ⟨g, cap, cur, h1, _, _, h2, h3, _⟩
    · refine ⟨none, 0, by rw [h1, h2], by omega, by omega, fun hl => absurd (List.length_eq_zero_iff.1 h2) hl⟩
    · refine ⟨_, cap, h1, h2, by omega, fun _ => ⟨_, rfl, fun j u hu => ?_⟩⟩
      exact h'.cells (g := g) (by rw [h1]; rfl) j u hu
  · rw [hh] at h
    exact ⟨h⟩
  · rw [hh] at h
    rcases h with ⟨h1, h2⟩ | ⟨g, off, c, vs, e2, fz, h1, h2, h3, h4, h5, h6, h7⟩
    · subst h2
      exact ⟨none, 0, h1, Nat.le_refl _, Nat.zero_le _, fun hl => absurd rfl hl⟩
    · refine ⟨_, c, h1, h2, h3, fun _ => ⟨_, rfl, fun j u hu => ?_⟩⟩
      rw [Addr.add_mid, cell_of_row w g _ vs e2 fz h4]
      exact h7 j u hu
theorem RoVal.reads {B : Nat → Prop} {ty : Ty} {l : List ty.T} {v : Value} (h : RoVal w B ty l v) : Reads w ty l v := by
  obtain ⟨A, c, h1, h2, h3, h4⟩ := h
  exact ⟨A, c, h1, h2, h3, fun hl => by obtain ⟨a, h5, _, h6⟩ := h4 hl; exact ⟨a, h5, h6⟩⟩
/-- The slice at an element's cell. -/
theorem NT.col_rel {B : Nat → Prop} {ty : Ty} {m : List ty.T} : ∀ (t : NT) (x : t.T) (us : List Value) (off : Nat), NT.col ty t x off = some m → NCells w B t x us → ∃ v, us[off]? = some v ∧ RoVal w B ty m v
  | .f t, x, us, off, h, _ => by simp [NT.col] at h
  | .sl t, l, us, off, h, ⟨v, h1, h2⟩ => by
    simp only [NT.col] at h
    cases hb : Nat.beq off 0 with
    | false => rw [hb] at h; simp at h
    | true =>
      rw [hb] at h
      have h0 := Nat.eq_of_beq_eq_true hb
      subst h0
      simp only [cnd_true] at h
      split at h
      · rename_i heq _
        simp only [Option.some.injEq] at h
        subst heq
        subst h
        exact ⟨v, by rw [h1]; rfl, h2⟩
      · simp at h
  | .pair a b, p, us, off, h, ⟨u1, u2, h1, h2, h3⟩ => by
    simp only [NT.col] at h
    have hl := NCells.len a p.1 u1 h2
    cases hb : Nat.blt off a.size with
    | true =>
      rw [hb] at h
      simp only [cnd_true] at h
      have hlt : off < a.size := Nat.le_of_ble_eq_true hb
      obtain ⟨v, h4, h5⟩ := NT.col_rel a p.1 u1 off h h2
      exact ⟨v, by rw [h1, List.getElem?_append_left (by omega)]; exact h4, h5⟩
    | false =>
      rw [hb] at h
      simp only [cnd_false] at h
      have hge : ¬ off < a.size := fun q => by
        have : Nat.blt off a.size = true := Nat.ble_eq_true_of_le q
        rw [hb] at this
        cases this
      obtain ⟨v, h4, h5⟩ := NT.col_rel b p.2 u2 (off - a.size) h h3
      exact ⟨v, by rw [h1, List.getElem?_append_right (by omega), hl]; exact h4, h5⟩
/-- What a slice within an element of a row says. -/
theorem pj_in {n sz off : Nat} {i : Int} {nt : NT} {l : List nt.T} {e' : TypeId} {ty : Ty} {m : List ty.T} {v : Value} (hen : hp n = .nro nt l e') (hsz : sz = nt.size) (hcol : NT.col ty nt (nt.get l i) off = some m) (hx : CRel hp ν (.pj n sz i off) v) {B : Nat → Prop} (hB : NestOK base G w hp ν B) : RoVal w B ty m v := by
  obtain ⟨hnf, hf1, _, A, L, c, cs, hs, hi0, hil, hcs, hv⟩ := hx
  have hrel := hB.rel n
  rw [hen] at hrel
  obtain ⟨_, A', c', cs', h1, h2, h3, h4⟩ := hrel
  rw [hcs] at h2
  injection h2 with h2
  subst h2
  rw [hs] at h1
  simp only [Value.slice.injEq] at h1
  obtain ⟨h1, rfl, rfl⟩ := h1
  have hil' : i.toNat < l.length := by omega
  rw [nget_at nt l i hi0 hil] at hcol
  obtain ⟨ps, us, rs, e1, e2, e3, _⟩ := NFlat.at nt l _ i.toNat hil' h4
  obtain ⟨u, h5, h6⟩ := NT.col_rel nt _ us off hcol e3
  have : cs[i.toNat * sz + off]? = some u := by
    have hj := (List.getElem?_eq_some_iff.1 h5).1
    rw [← Array.getElem?_toList, e1, List.getElem?_append_right (by rw [e2, hsz]; omega), e2, hsz, List.getElem?_append_left (by omega), ← h5]
    congr 1
    omega
  rw [hv] at this
  injection this with this
  subst this
  exact h6
theorem pj_reads {n sz off : Nat} {i : Int} {nt : NT} {l : List nt.T} {e' : TypeId} {ty : Ty} {m : List ty.T} {v : Value} (hen : hp n = .nro nt l e') (hsz : sz = nt.size) (hcol : NT.col ty nt (nt.get l i) off = some m) (hx : CRel hp ν (.pj n sz i off) v) (hm : Mem base G w0 w hp ν) :
    ∃ B, NestOK base G w hp ν B ∧ RoVal w B ty m v := by
  obtain ⟨B, hB⟩ := hm.nest
  exact ⟨B, hB, pj_in hen hsz hcol hx hB⟩
theorem readL_rel {av : Av} {ty : Ty} {x : SC} {l : List ty.T} {v : Value} (h : readL av hp ty x = some l) (hx : CRel hp ν x v) (hm : Mem base G w0 w hp ν) : Reads w ty l v := by
  unfold readL at h
  split at h
  · simp only [Option.some.injEq] at h
    subst h
    cases hx
    exact ⟨none, 0, rfl, by simp, by simp, by simp⟩
  · rename_i n
    obtain ⟨_, rfl, _⟩ := hx
    split at h
    · rename_i t l' e' hen
      cases hr : rdOk av n with
      | false => rw [hr] at h; simp at h
      | true =>
        rw [hr] at h
        simp only [cnd_true] at h
        split at h
        · rename_i heq _
          simp only [Option.some.injEq] at h
          subst heq
          subst h
          exact ent_reads (.inl hen) (hm.ent n)
        · simp at h
    · rename_i t l' e' hen
      split at h
      · rename_i heq _
        simp only [Option.some.injEq] at h
        subst heq
        subst h
        exact ent_reads (.inr (.inl hen)) (hm.ent n)
      · simp at h
    · rename_i t l' e' hen
      cases hr : rdOk av n with
      | false => rw [hr] at h; simp at h
      | true =>
        rw [hr] at h
        simp only [cnd_true] at h
        split at h
        · rename_i heq _
          simp only [Option.some.injEq] at h
          subst heq
          subst h
          exact ent_reads (.inr (.inr hen)) (hm.ent n)
        · simp at h
    · simp at h
  · rename_i n sz i off
    split at h
    · rename_i nt l' e' hen
      cases hb : Nat.beq sz nt.size with
      | false => rw [hb] at h; simp at h
      | true =>
        rw [hb] at h
        simp only [cnd_true] at h
        obtain ⟨B, _, h1⟩ := pj_reads hen (Nat.eq_of_beq_eq_true hb) h hx hm
        exact h1.reads
    · simp at h
  · simp at h
theorem lenA_run {av : Av} {t : TypeId} {x : SV} {n : Int} {v : Value} (h : lenA P av hp t x = some n) (hx : VRel hp ν x v) (hm : Mem base G w0 w hp ν) (ty : TypeId) : (Builtin.len_ #[t] ty #[v]).run P w = .ok (.int .i64 n) w := by
  unfold lenA at h
  split at h
  · rename_i s
    obtain rfl := hx.str
    split at h
    · rename_i hu
      simp only [Option.some.injEq] at h
      subst h
      simp [Builtin.len_, run_underlying hu, goInt]
    · simp at h
  · obtain rfl := hx.nils
    split at h
    · rename_i e' hu
      simp only [Option.some.injEq] at h
      subst h
      simp [Builtin.len_, run_underlying hu, goInt]
    · simp at h
  · rename_i n'
    obtain ⟨_, rfl, _⟩ := hx.sl
    split at h
    · rename_i e' hu
      split at h
      · rename_i ty' l e'' hen
        cases hr : rdOk av n' with
        | false => rw [hr] at h; simp at h
        | true =>
          rw [hr] at h
          simp only [cnd_true, Option.some.injEq] at h
          subst h
          obtain ⟨A, c, hv, _⟩ := (ent_reads (.inl hen) (hm.ent n')).out
          rw [hv]
          simp [Builtin.len_, run_underlying hu, goInt]
      · rename_i ty' l e'' hen
        simp only [Option.some.injEq] at h
        subst h
        obtain ⟨A, c, hv, _⟩ := (ent_reads (.inr (.inl hen)) (hm.ent n')).out
        rw [hv]
        simp [Builtin.len_, run_underlying hu, goInt]
      · rename_i ty' l e'' hen
        cases hr : rdOk av n' with
        | false => rw [hr] at h; simp at h
        | true =>
          rw [hr] at h
          simp only [cnd_true, Option.some.injEq] at h
          subst h
          obtain ⟨A, c, hv, _⟩ := (ent_reads (.inr (.inr hen)) (hm.ent n')).out
          rw [hv]
          simp [Builtin.len_, run_underlying hu, goInt]
      · rename_i ty' l e'' hen
        simp only [Option.some.injEq] at h
        subst h
        have hent := hm.ent n'
        rw [hen] at hent
        obtain ⟨A, c, fl, hv, _⟩ := hent
        rw [hv]
        simp [Builtin.len_, run_underlying hu, goInt]
      · simp at h
    · simp at h
  · simp at h
theorem run_bstr {l : List Int} {v : Value} (h : Reads w (.int .u8) l v) : (Conv.bytesToString v).run P w = .ok (.string (bstr l)) w := by
  obtain ⟨A, c, rfl, _, _, hr⟩ := h.out
  by_cases hl : l = []
  · subst hl
    cases A with
    | none =>
      have : (Conv.bytesToString (.slice none 0 c)).run P w = .ok (.string ByteArray.empty) w := by simp [Conv.bytesToString]
      exact this
    | some a =>
      have := run_bytesToString (P := P) w a 0 c [] (by simp [loadCells, loadCellsFrom])
      exact this
  · obtain ⟨a, rfl, hcells⟩ := hr hl
    have hl2 := run_loadCells_list (P := P) w a (l.map (Value.int .u8)) (fun j u hu => hcells j u (by rw [flat_int]; exact hu))
    rw [List.length_map] at hl2
    have := run_bytesToString (P := P) w a l.length c l hl2
    refine this.trans ?_
    rw [bstr_eq l]
    simp [bstr]
/-! ### bounds of a cut -/
theorem bounds_run (b : Bool) (len cap : Nat) (lo hi : Option Value) (l h : Int) (hcap : len ≤ cap)
    (hhi : (hi = none ∧ h = (len : Int)) ∨ (∃ k, hi = some (.int k h) ∧ 0 ≤ h ∧ h ≤ (cap : Int))) (hlo : (lo = none ∧ l = 0) ∨ (∃ k, lo = some (.int k l))) (hlh : 0 ≤ l ∧ l ≤ h) :
    (Instr.sliceBounds b len cap lo hi none).run P w = .ok (l.toNat, h.toNat, cap) w := by
  rcases hhi with ⟨rfl, rfl⟩ | ⟨k, rfl, h0, h1⟩
  · rcases hlo with ⟨rfl, rfl⟩ | ⟨k', rfl⟩
    · simp [Instr.sliceBounds]
    · have : l ≤ (len : Int) := hlh.2
      simp [Instr.sliceBounds, Instr.sliceBound, asIntOf, hlh.1, this]
  · have e1 : (Instr.sliceBound (.int k h) cap (if b then .sliceAcap else .sliceAlen)).run P w = .ok h.toNat w := by
      simp [Instr.sliceBound, asIntOf, h0, h1]
    rcases hlo with ⟨rfl, rfl⟩ | ⟨k', rfl⟩
    · simp [Instr.sliceBounds, e1]
    · have e2 : (Instr.sliceBound (.int k' l) h.toNat .sliceB).run P w = .ok l.toNat w := by
        have : l ≤ ((h.toNat : Nat) : Int) := by omega
        simp only [Instr.sliceBound, asIntOf, Sem.run_bind, Sem.run_pure, Result.andThen_ok]
        rw [if_pos ⟨hlh.1, this⟩]
        rfl
      simp [Instr.sliceBounds, e1, e2]
end
end Go.Sx
/- Slices: cut, made, appended to; one operation, whichever. -/
set_option linter.unusedVariables false
set_option linter.unusedSimpArgs false
namespace Go.Sx
open Go.RowKit (wrap64)

theorem flat_take (t : Ty) (l : List t.T) (n : Nat) : t.flat (l.take n) = (t.flat l).take (n * t.size) := by
  by_cases h : n ≤ l.length
  · have e : t.flat l = t.flat (l.take n) ++ t.flat (l.drop n) := by rw [← Ty.flat_append, List.take_append_drop]
    have hl : (t.flat (l.take n)).length = n * t.size := by rw [Ty.flat_len, List.length_take, Nat.min_eq_left h]
    rw [e, ← hl, List.take_left]
  · rw [List.take_of_length_le (by omega), List.take_of_length_le (by rw [Ty.flat_len]; exact Nat.mul_le_mul_right _ (by omega))]
theorem flat_drop (t : Ty) (l : List t.T) (n : Nat) : t.flat (l.drop n) = (t.flat l).drop (n * t.size) := by
  by_cases h : n ≤ l.length
  · have e : t.flat l = t.flat (l.take n) ++ t.flat (l.drop n) := by rw [← Ty.flat_append, List.take_append_drop]
    have hl : (t.flat (l.take n)).length = n * t.size := by rw [Ty.flat_len, List.length_take, Nat.min_eq_left h]
    rw [e, ← hl, List.drop_left]
  · rw [List.drop_of_length_le (by omega), List.drop_of_length_le (by rw [Ty.flat_len]; exact Nat.mul_le_mul_right _ (by omega))]
    rfl
section
variable {P : Program} {base : Nat} {G : Nat → Prop} {w0 w : World} {hp : Hp} {ν : Nat → Value} {ρ : Operand → Value} {e : Operand → SV} {o : Oper}
/-- What a bound is, as the machine has it. -/
theorem opd_some {x : Option Operand} {n : Option Int} (h : intOpd (x.map e) = some n) (he : ∀ x, VRel hp ν (e x) (ρ x)) :
    (x = none ∧ n = none) ∨ (∃ k m, n = some m ∧ x.map ρ = some (.int k m)) := by
  cases x with
  | none => simp only [Option.map_none, intOpd, Option.some.injEq] at h; subst h; exact .inl ⟨rfl, rfl⟩
  | some y =>
    simp only [Option.map_some] at h
    unfold intOpd at h
    split at h
    · rename_i h1; simp at h1
    · rename_i k m h1
      simp only [Option.some.injEq] at h h1
      subst h
      have := he y
      rw [h1] at this
      exact .inr ⟨k, m, rfl, by rw [Option.map_some, this.int]⟩
    · simp at h
/-- The machine's bounds, out of the conditions. -/
theorem cut_bounds {lo hi : Option Operand} {lo' hi' : Option Int} {len cap : Nat} (hlo : intOpd (lo.map e) = some lo') (hhi : intOpd (hi.map e) = some hi') (he : ∀ x, VRel hp ν (e x) (ρ x)) (hcap : len ≤ cap)
    (hc : ∀ s ∈ cutC lo' hi' (len : Int), s.b = true) (b : Bool) :
    0 ≤ lo'.getD 0 ∧ lo'.getD 0 ≤ hi'.getD (len : Int) ∧ hi'.getD (len : Int) ≤ (len : Int) ∧
    (Instr.sliceBounds b len cap (lo.map ρ) (hi.map ρ) none).run P w = .ok ((lo'.getD 0).toNat, (hi'.getD (len : Int)).toNat, cap) w := by
  have hH : 0 ≤ hi'.getD (len : Int) ∧ hi'.getD (len : Int) ≤ (len : Int) := by
    cases hi' with
    | none => simp
    | some h =>
      have h1 := hc (.le 0 h) (by simp [cutC, oD_eq])
      have h2 := hc (.le h (len : Int)) (by simp [cutC, oD_eq])
      simp only [SB.b, decide_eq_true_eq] at h1 h2
      exact ⟨h1, h2⟩
  have hL : 0 ≤ lo'.getD 0 ∧ lo'.getD 0 ≤ hi'.getD (len : Int) := by
    cases lo' with
    | none => exact ⟨Int.le_refl _, hH.1⟩
    | some l =>
      have h1 := hc (.le 0 l) (by simp [cutC, oD_eq])
      have h2 := hc (.le l (hi'.getD (len : Int))) (by simp [cutC, oD_eq])
      simp only [SB.b, decide_eq_true_eq] at h1 h2
      exact ⟨h1, h2⟩
  refine ⟨hL.1, hL.2, hH.2, ?_⟩
  refine bounds_run b len cap _ _ _ _ hcap ?_ ?_ hL
  · rcases opd_some hhi he with ⟨rfl, rfl⟩ | ⟨k, m, rfl, h2⟩
    · exact .inl ⟨rfl, rfl⟩
    · exact .inr ⟨k, h2, hH.1, by have := hH.2; simp only [Option.getD_some] at this ⊢; omega⟩
  · rcases opd_some hlo he with ⟨rfl, rfl⟩ | ⟨k, m, rfl, h2⟩
    · exact .inl ⟨rfl, rfl⟩
    · exact .inr ⟨k, h2⟩
theorem grownBy_refl (w : World) (r : Option Nat) : w.grownBy w r := ⟨rfl, rfl, rfl, Nat.le_refl _, fun _ _ _ => rfl⟩
/-- A new name for memory that is read alone. -/
theorem Mem.share (h : Mem base G w0 w hp ν) {nm : Nat} (hn : hp nm = .free) {ty : Ty} {l : List ty.T} {e' : TypeId} {v : Value} (he : EntRel base hp ν w (.ro ty l e') v)
    (hsep : l ≠ [] → ∀ m, wrE (hp m) → ∀ g, blk (ν m) = some g → blk v ≠ some g) :
    Mem base G w0 w (upd hp nm (.ro ty l e')) (upd ν nm v) ∧ Ext hp ν (upd hp nm (.ro ty l e')) (upd ν nm v) := by
  have hext := Ext.new (ν := ν) hn (.ro ty l e') v
  refine ⟨⟨fun n => ?_, fun n m hne hwn hlm g hg => ?_, fun n hwn g hg => ?_, h.fr, h.nest.imp fun B hB => hB.add hn trivial (fun q => q.elim)⟩, hext⟩
  · by_cases hnm : n = nm
    · subst hnm; rw [upd_same, upd_same]; exact he.mono hext
    · rw [upd_other _ _ hnm, upd_other _ _ hnm]; exact (h.ent n).mono hext
  · have hnn : n ≠ nm := fun e => by subst e; rw [upd_same] at hwn; exact hwn
    rw [upd_other _ _ hnn] at hwn hg
    by_cases hmm : m = nm
    · subst hmm
      rw [upd_same] at hlm ⊢
      exact hsep hlm n hwn g hg
    · rw [upd_other _ _ hmm] at hlm ⊢
      exact h.sep n m hne hwn hlm g hg
  · have hnn : n ≠ nm := fun e => by subst e; rw [upd_same] at hwn; exact hwn
    rw [upd_other _ _ hnn] at hwn hg
    exact h.mine n hwn g hg
theorem good_slice {t : TypeId} {x : Operand} {lo hi : Option Operand} {av : Av} {nm : Nat} {cs : List SB} {v : SV} {hp' : Hp} (ho : o.op = .slice t x lo hi none)
    (h : sliceA P av t nm hp (e x) (lo.map e) (hi.map e) = some (cs, v, hp')) (hc : ∀ s ∈ cs, s.b = true) (he : ∀ x, VRel hp ν (e x) (ρ x)) (hm : Mem base G w0 w hp ν) : Good P base G w0 hp ν ρ o w v hp' := by
  unfold sliceA at h
  split at h
  case h_2 => simp at h
  rename_i lo' hi' hlo hhi
  have hx := he x
  split at h
  · rename_i s hex
    rw [hex] at hx
    have hxv := hx.str
    split at h
    case h_2 => simp at h
    rename_i hu
    simp only [Option.some.injEq, Prod.mk.injEq] at h
    obtain ⟨rfl, rfl, rfl⟩ := h
    obtain ⟨b1, b2, b3, hb⟩ := cut_bounds (P := P) (w := w) (len := s.size) (cap := s.size) hlo hhi he (Nat.le_refl _) hc false
    refine good_same (u := .string (s.extract (lo'.getD 0).toNat (hi'.getD (s.size : Int)).toNat)) ?_ ⟨_, rfl, by rw [oD_eq, oD_eq]; rfl⟩ hm
    unfold execOp
    rw [ho]
    simp [hxv, Instr.sliceAt, Instr.slice, run_underlying hu, hb]
  · rename_i n hex
    rw [hex] at hx
    obtain ⟨hnf, hxv, A0, L0, c0, hsl⟩ := hx.sl
    split at h
    case h_2 => simp at h
    rename_i e'' hn hus
    have hu := sliceOf_some hus
    have run : ∀ (A : Option Addr) (len cap l h m : Nat), ρ x = .slice A len cap → szOf P e'' = some m → (Instr.sliceBounds true len cap (lo.map ρ) (hi.map ρ) none).run P w = .ok (l, h, cap) w →
        (execOp ρ o).run P w = .ok (.value (.slice (if cap = l then A else A.map (·.add (l * m))) (h - l) (cap - l))) w := by
      intro A len cap l h m hxa hs hb
      obtain ⟨i, hi', hn'⟩ := szOf_some hs
      unfold execOp
      rw [ho]
      simp [hxa, Instr.sliceAt, Instr.slice, run_underlying hu, hb, sizeOf, typeInfo, hi', hn']
    split at h
    · rename_i ty l e' hen
      split at h
      case h_2 => simp at h
      rename_i m hsz
      cases hmz : Nat.beq m ty.size with
      | false => rw [hmz] at h; simp at h
      | true =>
        rw [hmz] at h
        have hmz' := Nat.eq_of_beq_eq_true hmz
        subst hmz'
        simp only [cnd_true, Option.some.injEq, Prod.mk.injEq] at h
        obtain ⟨rfl, rfl, rfl⟩ := h
        obtain ⟨A, c, hv, hlc, hlm, hr⟩ := (ent_reads (.inr (.inl hen)) (hm.ent n)).out
        obtain ⟨b1, b2, b3, hb⟩ := cut_bounds (P := P) (w := w) (len := l.length) (cap := c) hlo hhi he hlc hc true
        rw [oD_eq, oD_eq]
        generalize hH : (hi'.getD (l.length : Int)).toNat = H at hb ⊢
        generalize hL : (lo'.getD 0).toNat = Lo at hb ⊢
        have hHl : H ≤ l.length := by omega
        have hLH : Lo ≤ H := by omega
        have hlen : ((l.take H).drop Lo).length = H - Lo := by simp; omega
        have hrun := run A l.length c Lo H ty.size (hxv.trans hv) hsz hb
        rw [← hlen] at hrun
        have hmem := hm.share (nm := nm) hn (ty := ty) (l := (l.take H).drop Lo) (e' := e') (v := .slice (if c = Lo then A else A.map (·.add (Lo * ty.size))) ((l.take H).drop Lo).length (c - Lo)) ?_ ?_
        · refine ⟨_, w, _, .inl hrun, ?_, hmem.1, hmem.2⟩
          exact ⟨_, rfl, by rw [upd_same]; simp, by rw [upd_same], _, _, _, rfl⟩
        · refine ⟨_, _, rfl, by omega, by omega, fun hne => ?_⟩
          have hpos : 0 < H - Lo := by rw [← hlen]; exact List.length_pos_iff.2 hne
          have hl0 : l ≠ [] := fun e => by subst e; simp at hHl; omega
          obtain ⟨a, rfl, hcells⟩ := hr hl0
          have hcl : ¬ c = Lo := by omega
          refine ⟨a.add (Lo * ty.size), by rw [if_neg hcl]; rfl, fun j u hu' => ?_⟩
          rw [Addr.add_add]
          refine hcells _ u ?_
          rw [flat_drop, flat_take, List.getElem?_drop, List.getElem?_take] at hu'
          split at hu'
          · exact hu'
          · cases hu'
        · intro hne m' hwm g hg hcon
          have hpos : 0 < H - Lo := by rw [← hlen]; exact List.length_pos_iff.2 hne
          have hl0 : l ≠ [] := fun e => by subst e; simp at hHl; omega
          obtain ⟨a, rfl, hcells⟩ := hr hl0
          have hcl : ¬ c = Lo := by omega
          rw [if_neg hcl] at hcon
          simp only [Option.map_some, blk, Option.some.injEq, add_block] at hcon
          have hne' : m' ≠ n := fun e => by subst e; rw [hen] at hwm; exact hwm
          exact hm.sep m' n hne' hwm (by rw [hen]; exact hl0) g hg (by rw [hv]; simp [blk, hcon])
    · rename_i ty l e' hen
      split at h
      case h_3 => simp at h
      case h_2 =>
        rename_i lo2 m hsz
        cases hmz : (wrOk av n && Nat.beq m ty.size) with
        | false => rw [hmz] at h; simp at h
        | true =>
          rw [hmz] at h
          rw [Bool.and_eq_true] at hmz
          have hmz' := Nat.eq_of_beq_eq_true hmz.2
          subst hmz'
          simp only [cnd_true, Option.some.injEq, Prod.mk.injEq] at h
          obtain ⟨rfl, rfl, rfl⟩ := h
          have hent := hm.ent n
          rw [hen] at hent
          have hown : w.ownsRow 0 e' ty.size (ν n) l.length (ty.flat l) := hent
          obtain ⟨A, c, hv, hlc, hlm, hr⟩ := (ent_reads (.inl hen) (hm.ent n)).out
          obtain ⟨b1, b2, b3, hb⟩ := cut_bounds (P := P) (w := w) (len := l.length) (cap := c) hlo hhi he hlc hc true
          rw [oD_eq]
          simp only [Option.getD_some] at b1 b2 hb
          generalize hH : (hi'.getD (l.length : Int)).toNat = H at hb ⊢
          generalize hL : lo2.toNat = Lo at hb ⊢
          have hHl : H ≤ l.length := by omega
          have hLH : Lo ≤ H := by omega
          have hlen : ((l.take H).drop Lo).length = H - Lo := by simp; omega
          have hrun := run A l.length c Lo H ty.size (hxv.trans hv) hsz hb
          rw [← hlen] at hrun
          have hmem := hm.turn (w' := w) (n := n) (nm := nm) hn hen (e := .ex ty ((l.take H).drop Lo) e') (v := .slice (if c = Lo then A else A.map (·.add (Lo * ty.size))) ((l.take H).drop Lo).length (c - Lo)) (grownBy_refl w _) (fun g hg => ?_) ?_ (by simp)
          · refine ⟨_, w, _, .inl hrun, ?_, hmem.1, hmem.2⟩
            exact ⟨_, rfl, by rw [upd_same]; simp, by rw [upd_same], _, _, _, rfl⟩
          · right
            rw [hv]
            cases A with
            | none => split at hg <;> simp [blk] at hg
            | some a => split at hg <;> simpa [blk, add_block] using hg
          · rcases hown.2 with ⟨h1, h2⟩ | ⟨g, cap, cur, h1, hbg, hheap, hnc, hcm, hcs, htake⟩
            · rw [hv] at h1
              simp only [Value.slice.injEq] at h1
              obtain ⟨rfl, h3, rfl⟩ := h1
              have hl0 : l = [] := List.length_eq_zero_iff.1 h2
              subst hl0
              left
              simp
            · right
              rw [hv] at h1
              simp only [Value.slice.injEq, true_and] at h1
              obtain ⟨rfl, rfl⟩ := h1
              have hmulc : l.length * ty.size ≤ c * ty.size := Nat.mul_le_mul_right _ hnc
              by_cases hcl : c = Lo
              · rw [if_pos hcl]
                have h0 : H - Lo = 0 := by omega
                refine ⟨g, 0, c - Lo, cur, e', (0, 0), rfl, by omega, by omega, hheap, by rw [hlen, h0]; omega, .inl (Nat.le_refl _), fun j u hu => ?_⟩
                have : (l.take H).drop Lo = [] := List.length_eq_zero_iff.1 (by omega)
                rw [this] at hu
                simp [Ty.flat] at hu
              · rw [if_neg hcl]
                refine ⟨g, Lo * ty.size, c - Lo, cur, e', (0, 0), by rw [Option.map_some, Addr.add_mid, Nat.zero_add], by omega, by omega, hheap, ?_, .inl (Nat.le_refl _), fun j u hu => ?_⟩
                · rw [hlen, ← Nat.add_mul, hcs]
                  exact Nat.mul_le_mul_right _ (by omega)
                · rw [flat_drop, flat_take, List.getElem?_drop, List.getElem?_take] at hu
                  split at hu
                  · rw [← htake, List.getElem?_take] at hu
                    split at hu
                    · simpa using hu
                    · cases hu
                  · cases hu
      rename_i m hsz
      cases hmz : (wrOk av n && Nat.beq m ty.size) with
      | false => rw [hmz] at h; simp at h
      | true =>
        rw [hmz] at h
        rw [Bool.and_eq_true] at hmz
        have hmz' := Nat.eq_of_beq_eq_true hmz.2
        subst hmz'
        simp only [cnd_true, Option.some.injEq, Prod.mk.injEq] at h
        obtain ⟨rfl, rfl, rfl⟩ := h
        have hent := hm.ent n
        rw [hen] at hent
        have hown : w.ownsRow 0 e' ty.size (ν n) l.length (ty.flat l) := hent
        obtain ⟨A, c, hv, hlc, hlm, hr⟩ := (ent_reads (.inl hen) (hm.ent n)).out
        obtain ⟨b1, b2, b3, hb⟩ := cut_bounds (P := P) (w := w) (len := l.length) (cap := c) hlo hhi he hlc hc true
        rw [oD_eq]
        generalize hH : (hi'.getD (l.length : Int)).toNat = H at hb ⊢
        have hHl : H ≤ l.length := by omega
        have hrun := run A l.length c 0 H ty.size (hxv.trans hv) hsz (by simpa using hb)
        have hA : (if c = 0 then A else A.map (·.add (0 * ty.size))) = A := by
          split
          · rfl
          · cases A <;> simp [Addr.add]
        rw [hA, Nat.sub_zero, Nat.sub_zero] at hrun
        have hlen : (l.take H).length = H := by simp; omega
        have hmem := hm.turn (w' := w) (n := n) (nm := nm) hn hen (e := .row ty (l.take H) e') (v := .slice A H c) (grownBy_refl w _) (fun g hg => ?_) ?_ (by simp)
        · refine ⟨_, w, _, .inl hrun, ?_, hmem.1, hmem.2⟩
          exact ⟨_, rfl, by rw [upd_same]; simp, by rw [upd_same], _, _, _, rfl⟩
        · right
          rw [hv]
          cases A with
          | none => simp [blk] at hg
          | some a => simpa [blk] using hg
        · show w.ownsRow 0 e' ty.size (.slice A H c) (l.take H).length (ty.flat (l.take H))
          rw [hlen, flat_take]
          refine ⟨by rw [List.length_take, Ty.flat_len, Nat.min_eq_left (Nat.mul_le_mul_right _ hHl)], ?_⟩
          rcases hown.2 with ⟨h1, h2⟩ | ⟨g, cap, cur, h1, hbg, hheap, hnc, hcm, hcs, htake⟩
          · rw [hv] at h1
            simp only [Value.slice.injEq] at h1
            obtain ⟨rfl, h3, rfl⟩ := h1
            left
            have : H = 0 := by omega
            subst this
            exact ⟨rfl, rfl⟩
          · right
            rw [hv] at h1
            simp only [Value.slice.injEq, true_and] at h1
            obtain ⟨rfl, rfl⟩ := h1
            refine ⟨g, c, cur, rfl, hbg, hheap, by omega, hcm, hcs, ?_⟩
            rw [← htake, List.take_take, Nat.min_eq_left (Nat.mul_le_mul_right _ hHl)]
    · simp at h
  · simp at h
theorem good_make {t el : TypeId} {n c : Operand} {a b : Int} {ka kb : IntKind} {ty : Ty} {by_ nm : Nat} {zg : Bool} {z : List SC} (ho : o.op = .makeSlice t n c) (hn : VRel hp ν (.a false [.int ka a]) (ρ n)) (hc : VRel hp ν (.a false [.int kb b]) (ρ c)) (hu : sliceOf P t = some el) (hty : elTy P el = some ty)
    (hby : (P.info? el).map (·.bytes) = some by_) (hf : hp nm = .free) (hz : zeroC P el = some (zg, z)) (hzE : zEq ty z = some []) (hb0 : Nat.blt 0 by_ = true) (h1 : a = b) (h2 : 0 ≤ a) (h3 : a * by_ ≤ 140737488355328) (hm : Mem base G w0 w hp ν) :
    Good P base G w0 hp ν ρ o w (one (.sl nm)) (upd hp nm (.row ty (List.replicate a.toNat ty.zero) el)) := by
  subst h1
  have hus := sliceOf_some hu
  obtain ⟨i, hi, hsz⟩ := elTy_some hty
  obtain ⟨i', zv, hi', hzv, hrel⟩ := zeroC_rel hz
  rw [hi] at hi'
  injection hi' with hi'
  subst hi'
  rw [hi] at hby
  simp only [Option.map_some, Option.some.injEq] at hby
  subst hby
  obtain ⟨us, hus', hnil⟩ := zEq_rel (hp := hp) (ν := ν) ty hzE (hrel hp ν).cells
  have hus0 : us = [] := by
    cases us with
    | nil => rfl
    | cons _ _ => exact hnil.elim
  subst hus0
  rw [List.append_nil] at hus'
  have hpos : 1 ≤ i.bytes := Nat.le_of_ble_eq_true hb0
  have hale : a ≤ 140737488355328 := by
    have : a * 1 ≤ a * (i.bytes : Int) := Int.mul_le_mul_of_nonneg_left (by omega) h2
    omega
  have hr := run_make (P := P) w t el i zv hus hi hzv ka kb a a h2 (Int.le_refl _) (by rw [Int.mul_comm]; omega) (by omega)
  refine good_row (ty := ty) (l := List.replicate a.toNat ty.zero) (cap := a.toNat) (cur := madeCells zv.cells (a.toNat * i.size)) hf ?_ (by simp) (by simp only [maxLen]; omega) (by rw [size_madeCells, hsz]) ?_ hm
  · unfold execOp
    rw [ho]
    simp only [hn.int, hc.int, Sem.run_bind, hr, Result.andThen_ok, List.length_replicate]
    rfl
  · rw [hsz, flat_replicate ty zv.cells hus' a.toNat, List.take_of_length_le (by rw [Ty.flat_len]; simp)]
theorem good_makeN {t el : TypeId} {n c : Operand} {a b : Int} {ka kb : IntKind} {nt : NT} {by_ nm : Nat} {zg : Bool} {z : List SC} (ho : o.op = .makeSlice t n c) (hn : VRel hp ν (.a false [.int ka a]) (ρ n)) (hc : VRel hp ν (.a false [.int kb b]) (ρ c)) (hu : sliceOf P t = some el) (hty : elNT P el = some nt)
    (hby : (P.info? el).map (·.bytes) = some by_) (hf : hp nm = .free) (hz : zeroC P el = some (zg, z)) (hzE : zEqN nt z = some []) (hb0 : Nat.blt 0 by_ = true) (h1 : a = b) (h2 : 0 ≤ a) (h3 : a * by_ ≤ 140737488355328) (hm : Mem base G w0 w hp ν) :
    Good P base G w0 hp ν ρ o w (one (.sl nm)) (upd hp nm (.nrow nt (List.replicate a.toNat nt.zero) el)) := by
  subst h1
  have hus := sliceOf_some hu
  obtain ⟨i, hi, hsz⟩ := elNT_some hty
  obtain ⟨i', zv, hi', hzv, hrel⟩ := zeroC_rel hz
  rw [hi] at hi'
  injection hi' with hi'
  subst hi'
  rw [hi] at hby
  simp only [Option.map_some, Option.some.injEq] at hby
  subst hby
  obtain ⟨us, vr, hus', hcell, hnil⟩ := zEqN_rel (hp := hp) (ν := ν) nt hzE (hrel hp ν).cells
  have hus0 : vr = [] := by
    cases vr with
    | nil => rfl
    | cons _ _ => exact hnil.elim
  subst hus0
  rw [List.append_nil] at hus'
  have hpos : 1 ≤ i.bytes := Nat.le_of_ble_eq_true hb0
  have hale : a ≤ 140737488355328 := by
    have : a * 1 ≤ a * (i.bytes : Int) := Int.mul_le_mul_of_nonneg_left (by omega) h2
    omega
  have hr := run_make (P := P) w t el i zv hus hi hzv ka kb a a h2 (Int.le_refl _) (by rw [Int.mul_comm]; omega) (by omega)
  have hzs : zv.cells.size = nt.size := by rw [← Array.length_toList, hus', NCells.len nt nt.zero us (hcell w (fun _ => True))]
  have hl : (List.replicate a.toNat nt.zero).length = a.toNat := List.length_replicate
  have hcl : ∀ (w : World) (B : Nat → Prop), NFlat w B nt (List.replicate a.toNat nt.zero) (madeCells zv.cells (a.toNat * i.size)).toList := fun w B => by
    have := nflat_made (w := w) (B := B) nt zv.cells (by rw [hus']; exact hcell w B) a.toNat
    rw [hzs, ← hsz] at this
    exact this
  have hrun : (execOp ρ o).run P w = .ok (.value (.slice (some ⟨w.heap.size, 0, none⟩) (List.replicate a.toNat nt.zero).length a.toNat)) (w.alloc (.cells (madeCells zv.cells (a.toNat * i.size)) el)) := by
    unfold execOp
    rw [ho]
    simp only [hn.int, hc.int, Sem.run_bind, hr, Result.andThen_ok, List.length_replicate]
    rfl
  have hown : (w.alloc (.cells (madeCells zv.cells (a.toNat * i.size)) el)).ownsRow 0 el nt.size (.slice (some ⟨w.heap.size, 0, none⟩) (List.replicate a.toNat nt.zero).length a.toNat) (List.replicate a.toNat nt.zero).length (madeCells zv.cells (a.toNat * i.size)).toList := by
    refine ⟨by rw [Array.length_toList, size_madeCells, hl, hsz], .inr ⟨w.heap.size, a.toNat, madeCells zv.cells (a.toNat * i.size), rfl, Nat.zero_le _, heap_alloc_new _ _, by rw [hl]; exact Nat.le_refl _, by simp only [maxLen]; omega, by rw [size_madeCells, hsz], ?_⟩⟩
    rw [List.take_of_length_le (by rw [Array.length_toList, size_madeCells, hl, hsz]; exact Nat.le_refl _)]
  have hmem := hm.new (w' := w.alloc (.cells (madeCells zv.cells (a.toNat * i.size)) el)) hf (e := .nrow nt (List.replicate a.toNat nt.zero) el) (v := .slice (some ⟨w.heap.size, 0, none⟩) (List.replicate a.toNat nt.zero).length a.toNat) rfl rfl rfl (by simp) (fun k hk => heap_alloc_old _ _ _ hk)
    (fun g hg => by simp [blk] at hg; omega) ⟨_, hown⟩ (by simp) (fun B _ _ => ⟨_, by rw [upd_same]; exact hown, hcl _ _⟩)
  refine ⟨_, _, _, .inl hrun, ?_, hmem.1, hmem.2⟩
  exact ⟨_, rfl, by rw [upd_same]; simp, by rw [upd_same], _, _, _, rfl⟩
theorem foldI_run {f : Int → Int → Int} {g : Value → Value → Sem Value} {k : IntKind} (hg : ∀ (a b : Int), (g (.int k a) (.int k b)) = pure (.int k (f a b))) : ∀ (xs : List SV) (vs : List Value) (a n : Int),
    foldI f k a xs = some n → xs.length = vs.length → (∀ (j : Nat) (x : SV), xs[j]? = some x → ∃ v, vs[j]? = some v ∧ VRel hp ν x v) → (vs.foldlM g (.int k a)).run P w = .ok (.int k n) w
  | [], [], a, n, h, _, _ => by simp only [foldI, Option.some.injEq] at h; subst h; simp
  | x :: xs, v :: vs, a, n, h, hl, hr => by
    unfold foldI at h
    split at h
    · rename_i h1; simp at h1
    · rename_i a' k' b r h1
      simp only [List.cons.injEq] at h1
      obtain ⟨rfl, rfl⟩ := h1
      cases hk : keq k k' with
      | false => rw [hk] at h; simp at h
      | true =>
        rw [hk] at h
        have := keq_eq hk
        subst this
        obtain ⟨v', hv', hx⟩ := hr 0 (.a false [.int k b]) (by simp)
        simp only [List.getElem?_cons_zero, Option.some.injEq] at hv'
        subst hv'
        have := hx.int
        subst this
        simp only [List.foldlM_cons, hg, pure_bind]
        exact foldI_run hg xs vs _ n h (by simpa using hl) (fun j x hj => by
          obtain ⟨u, hu, hux⟩ := hr (j + 1) x (by simpa using hj)
          exact ⟨u, by simpa using hu, hux⟩)
    · simp at h
  | [], _ :: _, _, _, _, hl, _ => by simp at hl
  | _ :: _, [], _, _, _, hl, _ => by simp at hl
end
end Go.Sx
/- An append; one operation that calls nobody, whichever. -/
set_option linter.unusedVariables false
set_option linter.unusedSimpArgs false
namespace Go.Sx
open Go.RowKit (wrap64)
section
variable {P : Program} {base : Nat} {G : Nat → Prop} {w0 w : World} {hp : Hp} {ν : Nat → Value} {ρ : Operand → Value} {e : Operand → SV} {o : Oper}
theorem run_append_none (t ty el : TypeId) (i : TypeInfo) (size : Nat) (c : Nat) (ht : P.underlying t = some (.slice el)) (hi : P.info? el = some i)
    (v : Value) (n : Nat) (xs : List Value) (hown : w.ownsRow base el size v n xs) : (Builtin.append_ #[t, t] ty #[v, .slice none 0 c]).run P w = .ok v w := by
  rcases hown.2 with ⟨rfl, rfl⟩ | ⟨g, cap, cur, rfl, _, _, hnc, _⟩
  · simp [Builtin.append_, run_underlying ht, sizeOf, typeInfo, hi, Builtin.lenOf, Builtin.firstCells]
  · simp [Builtin.append_, run_underlying ht, sizeOf, typeInfo, hi, Builtin.lenOf, Builtin.firstCells, hnc, storeCells]
theorem fresh_owns (w : World) (base : Nat) (e' : TypeId) (size n cap : Nat) (xs : List Value) (cur : Array Value) (hb : base ≤ w.heap.size) (hl : xs.length = n * size) (hn : n ≤ cap) (hc : cap ≤ maxLen) (hs : cur.size = cap * size) (ht : cur.toList.take (n * size) = xs) :
    (w.drew.alloc (.cells cur e')).ownsRow base e' size (.slice (some ⟨w.heap.size, 0, none⟩) n cap) n xs :=
  ⟨hl, .inr ⟨w.heap.size, cap, cur, rfl, hb, heap_alloc_new w.drew _, hn, hc, hs, ht⟩⟩
theorem append_cur (olds news : List Value) (z : Array Value) (n cap size : Nat) (hz : z.size = size) (hl : (olds ++ news).length = n * size) (hn : n ≤ cap) :
    (olds.toArray ++ news.toArray ++ Builtin.zeroCells z (cap - n)).size = cap * size ∧ (olds.toArray ++ news.toArray ++ Builtin.zeroCells z (cap - n)).toList.take (n * size) = olds ++ news := by
  constructor
  · simp only [Array.size_append, List.size_toArray, size_zeroCells, hz]
    rw [List.length_append] at hl
    rw [hl, ← Nat.add_mul]
    congr 1
    omega
  · simp only [Array.toList_append]
    rw [← hl, List.take_left]
theorem grown_alloc (w : World) (o : Obj) (r : Option Nat) : w.grownBy (w.drew.alloc o) r := ⟨rfl, rfl, rfl, by simp, fun k hk _ => heap_alloc_old w.drew o k hk⟩
theorem mul_bound {n b : Nat} (h : (n : Int) * (b : Int) ≤ 140737488355328) (hb : 0 < b) : n * b ≤ 140737488355328 ∧ n ≤ 140737488355328 := by
  have h1 : ((n * b : Nat) : Int) ≤ 140737488355328 := by rw [Int.natCast_mul]; exact h
  have h2 : n * 1 ≤ n * b := Nat.mul_le_mul_left _ hb
  omega
theorem good_append {t : TypeId} {s x : Operand} {av : Av} {nm : Nat} {cs : List SB} {v : SV} {hp' : Hp} (ho : o.op = .call { callee := .builtin .append, args := #[s, x], argTypes := #[t, t] })
    (h : appendA P av t nm hp (e s) (e x) = some (cs, v, hp')) (hc : ∀ s ∈ cs, s.b = true) (he : ∀ x, VRel hp ν (e x) (ρ x)) (hm : Mem base G w0 w hp ν) : Good P base G w0 hp ν ρ o w v hp' := by
  have run : ∀ v' w', (Builtin.append_ #[t, t] o.type #[ρ s, ρ x]).run P w = .ok v' w' → (execOp ρ o).run P w = .ok (.value v') w' := by
    intro v' w' hr
    unfold execOp
    simp only [ho, resolve, invoke, builtin, Sem.run_bind, Sem.run_pure, Result.andThen_ok, List.map_toArray, List.map_cons, List.map_nil, hr]
  have hs := he s
  have hx := he x
  unfold appendA at h
  split at h
  case h_2 => simp at h
  rename_i s' x' hes hex
  rw [hes] at hs
  rw [hex] at hx
  obtain ⟨zs, hzs, hs⟩ := hs
  injection hzs with hzs _
  subst hzs
  obtain ⟨zx, hzx, hx⟩ := hx
  injection hzx with hzx _
  subst hzx
  split at h
  case h_2 => simp at h
  rename_i el hus
  have hu := sliceOf_some hus
  split at h
  case h_2 => simp at h
  rename_i ty by_ zg z hty hby hz
  obtain ⟨i, hi, hsz⟩ := elTy_some hty
  obtain ⟨i', zv, hi', hzv, hrel⟩ := zeroC_rel hz
  rw [hi] at hi'
  injection hi' with hi'
  subst hi'
  rw [hi] at hby
  simp only [Option.map_some, Option.some.injEq] at hby
  subst hby
  split at h
  case h_2 => simp at h
  rename_i m hm' hnm
  have hreads := readL_rel hm' hx hm
  cases hcond : (Nat.beq z.length ty.size && Nat.blt 0 i.bytes) with
  | false => rw [hcond] at h; simp at h
  | true =>
  rw [hcond] at h
  simp only [cnd_true] at h
  rw [Bool.and_eq_true] at hcond
  have hzl := Nat.eq_of_beq_eq_true hcond.1
  have hb0 : 0 < i.bytes := Nat.le_of_ble_eq_true hcond.2
  have hzs : zv.cells.size = ty.size := by
    have := (hrel hp ν).cells.len
    simp at this
    omega
  obtain ⟨A, c, hv, hmc, hmm, hcells⟩ := hreads.out
  have hml : (ty.flat m).length = m.length * i.size := by rw [Ty.flat_len, hsz]
  split at h
  · simp only [Option.some.injEq, Prod.mk.injEq] at h
    obtain ⟨rfl, rfl, rfl⟩ := h
    have hs' : ρ s = .slice none 0 0 := hs
    have h0 := hc (.le ((m.length : Int) * i.bytes) 140737488355328) (by simp)
    simp only [SB.b, decide_eq_true_eq] at h0
    obtain ⟨hb1, hb2⟩ := mul_bound h0 hb0
    have hnil := World.ownsRow_nil w 0 el ty.size
    by_cases hm0 : m = []
    · subst hm0
      have hrun : (Builtin.append_ #[t, t] o.type #[ρ s, ρ x]).run P w = .ok (.slice none 0 0) w := by
        rw [hs', hv]
        cases A with
        | none => exact run_append_none t _ el i ty.size c hu hi _ 0 [] hnil
        | some a => simp [Builtin.append_, run_underlying hu, sizeOf, typeInfo, hi, Builtin.lenOf, Builtin.firstCells, loadCells, loadCellsFrom]
      have hmem := hm.new (w' := w) hnm (e := .row ty [] el) (v := .slice none 0 0) rfl rfl rfl (Nat.le_refl _) (fun _ _ => rfl) (fun g hg => by simp [blk] at hg) ⟨by simp [Ty.flat], .inl ⟨rfl, rfl⟩⟩ (by simp)
      refine ⟨_, _, _, .inl (run _ _ hrun), ?_, hmem.1, hmem.2⟩
      exact ⟨_, rfl, by rw [upd_same]; simp, by rw [upd_same], _, _, _, rfl⟩
    · obtain ⟨a, rfl, hcl⟩ := hcells hm0
      have hpos : 0 < m.length := List.length_pos_iff.2 hm0
      have hrun := run_append_nil (P := P) w t o.type el i zv hu hi hzv a m.length c (ty.flat m) hml hcl hpos (by omega) (by omega)
      rw [← hs', ← hv] at hrun
      have hge := grownCap_ge w m.length 0 el
      have hcm : grownCap w m.length 0 el ≤ maxLen := grownCap_le_maxLen w m.length 0 el (by simp only [maxLen]; omega)
      have hcur := append_cur [] (ty.flat m) zv.cells m.length (grownCap w m.length 0 el) ty.size hzs (by rw [List.nil_append, Ty.flat_len]) hge
      simp only [Array.empty_append, List.nil_append] at hcur
      have hmem := hm.new (w' := w.drew.alloc (.cells ((ty.flat m).toArray ++ Builtin.zeroCells zv.cells (grownCap w m.length 0 el - m.length)) el)) hnm (e := .row ty m el) (v := .slice (some ⟨w.heap.size, 0, none⟩) m.length (grownCap w m.length 0 el)) rfl rfl rfl (by simp) (fun k hk => heap_alloc_old w.drew _ k hk)
        (fun g hg => by simp [blk] at hg; omega) (fresh_owns w 0 el ty.size m.length _ (ty.flat m) _ (Nat.zero_le _) (by rw [Ty.flat_len]) hge hcm hcur.1 hcur.2) (by simp)
      refine ⟨_, _, _, .inl (run _ _ hrun), ?_, hmem.1, hmem.2⟩
      exact ⟨_, rfl, by rw [upd_same]; simp, by rw [upd_same], _, _, _, rfl⟩
  · rename_i n
    obtain ⟨hnf, hsv, _⟩ := hs
    split at h
    case h_2 => simp at h
    rename_i t' l e' hen
    split at h
    case h_2 => simp at h
    rename_i heq _
    subst heq
    cases hc2 : (wrOk av n && (Nat.beq e' el && notIn x' n)) with
    | false => rw [hc2] at h; simp at h
    | true =>
    rw [hc2] at h
    simp only [cnd_true, Option.some.injEq, Prod.mk.injEq] at h
    obtain ⟨rfl, rfl, rfl⟩ := h
    rw [Bool.and_eq_true, Bool.and_eq_true] at hc2
    have hee := Nat.eq_of_beq_eq_true hc2.2.1
    subst hee
    have h0 := hc (.le ((l.length + m.length : Nat) * i.bytes) 140737488355328) (by simp)
    simp only [SB.b, decide_eq_true_eq] at h0
    obtain ⟨hb1, hb2⟩ := mul_bound h0 hb0
    have hent := hm.ent n
    rw [hen] at hent
    have hown : w.ownsRow 0 e' t'.size (ν n) l.length (t'.flat l) := hent
    have done : ∀ (w' : World) (v' : Value), (Builtin.append_ #[t, t] o.type #[ρ s, ρ x]).run P w = .ok v' w' → w.grownBy w' (ν n).ownBlock → (∀ g, blk v' = some g → w.heap.size ≤ g ∨ blk (ν n) = some g) →
        w'.ownsRow 0 e' t'.size v' (l.length + m.length) (t'.flat l ++ t'.flat m) → Good P base G w0 hp ν ρ o w (one (.sl nm)) (upd (upd hp n .dead) nm (.row t' (l ++ m) e')) := by
      intro w' v' hr hg hsep hw'
      have hmem := hm.turn (w' := w') (n := n) (nm := nm) hnm hen (e := .row t' (l ++ m) e') (v := v') hg hsep (by
        show w'.ownsRow 0 e' t'.size v' (l ++ m).length (t'.flat (l ++ m))
        rw [List.length_append, Ty.flat_append]; exact hw') (by simp)
      refine ⟨_, _, _, .inl (run _ _ hr), ?_, hmem.1, hmem.2⟩
      obtain ⟨A', c', hv'⟩ : ∃ A' c', v' = .slice A' (l.length + m.length) c' := by
        rcases hw'.2 with ⟨h1, h2⟩ | ⟨g, cap, cur, h1, _⟩
        · exact ⟨none, 0, by rw [h1, h2]⟩
        · exact ⟨_, _, h1⟩
      exact ⟨_, rfl, by rw [upd_same]; simp, by rw [upd_same], _, _, _, hv'⟩
    by_cases hm0 : m = []
    · subst hm0
      refine done w (ν n) ?_ (grownBy_refl _ _) (fun g hg => .inr hg) (by simpa [Ty.flat] using hown)
      rw [hsv, hv]
      cases A with
      | none => exact run_append_none t _ e' i t'.size c hu hi _ _ _ hown
      | some a =>
        rcases hown.2 with ⟨h1, h2⟩ | ⟨g, cap, cur, h1, _, _, hnc, _⟩
        · rw [h1]; simp [Builtin.append_, run_underlying hu, sizeOf, typeInfo, hi, Builtin.lenOf, Builtin.firstCells, loadCells, loadCellsFrom]
        · rw [h1]; simp [Builtin.append_, run_underlying hu, sizeOf, typeInfo, hi, Builtin.lenOf, Builtin.firstCells, loadCells, loadCellsFrom, hnc, storeCells]
    · obtain ⟨a, rfl, hcl⟩ := hcells hm0
      have hpos : 0 < m.length := List.length_pos_iff.2 hm0
      rcases hown.2 with ⟨h1, h2⟩ | ⟨g, cap, cur, h1, hbg, hheap, hnc, hcm, hcs, htake⟩
      · have hl0 : l = [] := List.length_eq_zero_iff.1 h2
        subst hl0
        simp only [List.length_nil, Nat.zero_add] at hb1 hb2
        have hrun := run_append_nil (P := P) w t o.type e' i zv hu hi hzv a m.length c (t'.flat m) hml hcl hpos (by omega) (by omega)
        rw [← h1, ← hsv, ← hv] at hrun
        have hge := grownCap_ge w m.length 0 e'
        have hcm : grownCap w m.length 0 e' ≤ maxLen := grownCap_le_maxLen w m.length 0 e' (by simp only [maxLen]; omega)
        have hcur := append_cur [] (t'.flat m) zv.cells m.length (grownCap w m.length 0 e') t'.size hzs (by rw [List.nil_append, Ty.flat_len]) hge
        simp only [Array.empty_append, List.nil_append] at hcur
        refine done _ _ hrun (grown_alloc w _ _) (fun g hg => by simp [blk] at hg; exact .inl (by omega)) ?_
        have := fresh_owns w 0 e' t'.size m.length _ (t'.flat m) _ (Nat.zero_le _) (by rw [Ty.flat_len]) hge hcm hcur.1 hcur.2
        simpa [Ty.flat] using this
      · have hownv : w.ownsRow 0 e' t'.size (.slice (some ⟨g, 0, none⟩) l.length cap) l.length (t'.flat l) := by rw [← h1]; exact hown
        by_cases hroom : l.length + m.length ≤ cap
        · obtain ⟨w', hr, how, hgr⟩ := run_append_fits (P := P) w 0 t o.type e' i t'.size hu hi hsz g l.length cap (t'.flat l) hownv a m.length c (t'.flat m) (by rw [Ty.flat_len]) hcl (Ty.flat_one t' m) hroom
          rw [← h1, ← hsv, ← hv] at hr
          refine done w' _ hr (by rw [h1]; exact hgr) (fun g' hg' => .inr (by rw [h1]; exact hg')) how
        · have holds : ∀ j u, (t'.flat l)[j]? = some u → w.cell? ((⟨g, 0, none⟩ : Addr).add j) = some u := hownv.cells (g := g) rfl
          have hrun := run_append_grow (P := P) w t o.type e' i zv hu hi hzv ⟨g, 0, none⟩ l.length cap (t'.flat l) (by rw [Ty.flat_len, hsz]) holds a m.length c (t'.flat m) hml hcl (by omega) (by omega) (growslice_fits (by omega) hb1)
          rw [← h1, ← hsv, ← hv] at hrun
          have hge := grownCap_ge w (l.length + m.length) cap e'
          have hcm' : grownCap w (l.length + m.length) cap e' ≤ maxLen := grownCap_le_maxLen w _ cap e' (by simp only [maxLen]; omega)
          have hcur := append_cur (t'.flat l) (t'.flat m) zv.cells (l.length + m.length) (grownCap w (l.length + m.length) cap e') t'.size hzs (by rw [List.length_append, Ty.flat_len, Ty.flat_len, Nat.add_mul]) hge
          refine done _ _ hrun (grown_alloc w _ _) (fun g hg => by simp [blk] at hg; exact .inl (by omega)) ?_
          exact fresh_owns w 0 e' t'.size _ _ _ _ (Nat.zero_le _) (by rw [List.length_append, Ty.flat_len, Ty.flat_len, Nat.add_mul]) hge hcm' hcur.1 hcur.2
  · simp at h
end
end Go.Sx
/- One operation that calls nobody, whichever. -/
set_option linter.unusedVariables false
set_option linter.unusedSimpArgs false
namespace Go.Sx
open Go.RowKit (wrap64)
section
variable {P : Program} {base : Nat} {G : Nat → Prop} {w0 w : World} {hp : Hp} {ν : Nat → Value} {ρ : Operand → Value} {e : Operand → SV} {o : Oper}
theorem VRel.ptr {n off : Nat} {v : Value} (h : VRel hp ν (.a false [.ptr n off]) v) : hp n ≠ .free ∧ ∃ g, ν n = .pointer (some ⟨g, 0, none⟩) ∧ v = .pointer (some ⟨g, off, none⟩) := by
  obtain ⟨z, hz, h⟩ := h; injection hz with hz _; subst hz; exact h
theorem VRel.ep {n sz off : Nat} {i : Int} {v : Value} (h : VRel hp ν (.a false [.ep n sz i off]) v) : hp n ≠ .free ∧ ∃ A l c, ν n = .slice (some A) l c ∧ v = .pointer (some (A.add (i.toNat * sz + off))) ∧ 0 ≤ i ∧ i < (l : Int) := by
  obtain ⟨z, hz, h⟩ := h; injection hz with hz _; subst hz; exact h
theorem good_index {t : TypeId} {x i : Operand} {el : TypeId} {n m : Nat} {j : Int} {k : IntKind} {ty : Ty} {l : List ty.T} {e' : TypeId} (ho : o.op = .indexAddr t x i) (hu : sliceOf P t = some el) (hx : VRel hp ν (.a false [.sl n]) (ρ x)) (hi : VRel hp ν (.a false [.int k j]) (ρ i)) (hs : szOf P el = some m)
    (hen : hp n = .row ty l e' ∨ hp n = .ro ty l e' ∨ hp n = .ex ty l e') (h0 : 0 ≤ j) (h1 : j < (l.length : Int)) (hm : Mem base G w0 w hp ν) : Good P base G w0 hp ν ρ o w (one (.ep n m j 0)) hp := by
  obtain ⟨hnf, hxv, _⟩ := hx.sl
  obtain ⟨A, c, hv, _, _, hr⟩ := (ent_reads hen (hm.ent n)).out
  have hl : l ≠ [] := fun e => by subst e; simp at h1; omega
  obtain ⟨a, rfl, _⟩ := hr hl
  have hrun := indexAt_run (P := P) (w := w) (A := a) (L := l.length) (c := c) (k := k) (sliceOf_some hu) hs h0 h1
  rw [← hv, ← hxv, ← hi.int] at hrun
  refine good_same (u := .pointer (some (a.add (j.toNat * m)))) ?_ ⟨_, rfl, hnf, a, _, _, hv, by simp, h0, h1⟩ hm
  unfold execOp
  rw [ho]
  simp [hrun]
theorem good_indexN {t : TypeId} {x i : Operand} {el : TypeId} {n m : Nat} {j : Int} {k : IntKind} {nt : NT} {l : List nt.T} {e' : TypeId} (ho : o.op = .indexAddr t x i) (hu : sliceOf P t = some el) (hx : VRel hp ν (.a false [.sl n]) (ρ x)) (hi : VRel hp ν (.a false [.int k j]) (ρ i)) (hs : szOf P el = some m)
    (hen : hp n = .nro nt l e' ∨ hp n = .nrow nt l e') (h0 : 0 ≤ j) (h1 : j < (l.length : Int)) (hm : Mem base G w0 w hp ν) : Good P base G w0 hp ν ρ o w (one (.ep n m j 0)) hp := by
  obtain ⟨hnf, hxv, _⟩ := hx.sl
  have hl : l ≠ [] := fun e => by subst e; simp at h1; omega
  have hv : ∃ a c, ν n = .slice (some a) l.length c := by
    have hent := hm.ent n
    rcases hen with hh | hh
    · rw [hh] at hent
      obtain ⟨A, c, fl, h2, _, _, _, h3⟩ := hent
      obtain ⟨a, h4, _⟩ := h3 hl
      exact ⟨a, c, by rw [h2, h4]⟩
    · rw [hh] at hent
      obtain ⟨fl, h2⟩ := hent
      rcases h2.2 with ⟨h3, h4⟩ | ⟨g, cap, cur, h3, _⟩
      · exact absurd (List.length_eq_zero_iff.1 h4) hl
      · exact ⟨_, _, h3⟩
  obtain ⟨a, c, hv⟩ := hv
  have hrun := indexAt_run (P := P) (w := w) (A := a) (L := l.length) (c := c) (k := k) (sliceOf_some hu) hs h0 h1
  rw [← hv, ← hxv, ← hi.int] at hrun
  refine good_same (u := .pointer (some (a.add (j.toNat * m)))) ?_ ⟨_, rfl, hnf, a, _, _, hv, by simp, h0, h1⟩ hm
  unfold execOp
  rw [ho]
  simp [hrun]
theorem byl_len (s : ByteArray) : (byl s).length = s.size := by simp [byl]
/-- The bytes of a text, in memory of their own. -/
theorem good_bytes {src d el : TypeId} {x : Operand} {s : ByteArray} {nm : Nat} (ho : o.op = .convert src d x) (hx : ρ x = .string s) (hs : P.underlying src = some .string) (hd : P.underlying d = some (.slice el)) (hel : P.underlying el = some (.int .u8)) (hn : hp nm = .free) (hlen : s.size ≤ maxLen)
    (hm : Mem base G w0 w hp ν) : Good P base G w0 hp ν ρ o w (one (.sl nm)) (upd hp nm (.ex (.int .u8) (byl s : List Int) el)) := by
  have hrun := run_bytes_of_string (P := P) w src d el s hs hd hel
  have hge := grownCap_ge w s.size 0 el
  generalize grownCap w s.size 0 el = cap at hrun hge
  have hvs : (bytesRow s cap).size = cap := by
    unfold bytesRow
    simp
    have : s.data.size = s.size := rfl
    omega
  have hbl : (byl s).length = s.size := byl_len s
  have hmem := hm.new (w' := w.drew.alloc (.cells (bytesRow s cap) el ((bytesRow s cap).size, (bytesRow s cap).size + 1))) hn (e := .ex (.int .u8) (byl s : List Int) el) (v := .slice (some ⟨w.heap.size, 0, none⟩) s.size cap) rfl rfl rfl (by simp) (fun k hk => heap_alloc_old w.drew _ k hk)
    (fun g hg => by simp [blk] at hg; omega) (.inr ⟨w.heap.size, 0, cap, _, el, _, congrArg (fun q => Value.slice (some ⟨w.heap.size, 0, none⟩) q cap) hbl.symm, Nat.le_trans (Nat.le_of_eq hbl) hge, Nat.le_trans (Nat.le_of_eq hbl) hlen, heap_alloc_new w.drew _, ?_, .inr (Nat.le_refl _), fun j u hu => ?_⟩) (by simp)
  · refine ⟨.slice (some ⟨w.heap.size, 0, none⟩) s.size cap, _, _, .inl ?_, ?_, hmem.1, hmem.2⟩
    · unfold execOp
      rw [ho]
      simp only [Sem.run_bind, hx, hrun, Result.andThen_ok]
      rfl
    · exact ⟨_, rfl, by rw [upd_same]; simp, by rw [upd_same], _, _, _, rfl⟩
  · rw [hvs]
    exact Nat.le_trans (Nat.le_of_eq (by rw [Nat.zero_add]; exact (Nat.mul_one _).trans hbl)) hge
  · have e := flat_u8 (byl s)
    have hu : ((Ty.int .u8).flat (byl s : List Int))[j]? = some u := hu
    rw [e, List.getElem?_map] at hu
    unfold byl at hu
    rw [List.getElem?_map] at hu
    rw [Nat.zero_add]
    unfold bytesRow
    cases hb : s.data.toList[j]? with
    | none => rw [hb] at hu; simp at hu
    | some y =>
      rw [hb] at hu
      simp only [Option.map_some, Option.some.injEq] at hu
      have hj : j < s.data.size := by
        have := (List.getElem?_eq_some_iff.1 hb).1
        simpa using this
      rw [Array.getElem?_append_left (by simpa using hj)]
      have hb2 : s.data[j]? = some y := by simpa using hb
      simp [hb2, hu]
theorem opA_sound {av : Av} {nm : Nat} {cs : List SB} {v : SV} {hp' : Hp} (h : opA P av o.op e nm hp = some (cs, v, hp')) (hc : ∀ s ∈ cs, s.b = true) (he : ∀ x, VRel hp ν (e x) (ρ x)) (hm : Mem base G w0 w hp ν) :
    Good P base G w0 hp ν ρ o w v hp' := by
  generalize ho : o.op = op at h
  cases op
  case move x =>
    simp only [opA, Option.some.injEq, Prod.mk.injEq] at h
    obtain ⟨rfl, rfl, rfl⟩ := h
    exact good_same (by unfold execOp; rw [ho]; rfl) (he x) hm
  case assign x =>
    simp only [opA, Option.some.injEq, Prod.mk.injEq] at h
    obtain ⟨rfl, rfl, rfl⟩ := h
    exact good_same (by unfold execOp; rw [ho]; rfl) (he x) hm
  case alloc t =>
    simp only [opA] at h
    split at h
    · rename_i g cs' hz
      obtain ⟨hn, rfl, rfl, rfl⟩ := mk_some h
      exact good_alloc ho hz hn hm
    · simp at h
  case box t x =>
    simp only [opA] at h
    split at h
    · rename_i g cs' hx
      obtain ⟨hn, rfl, rfl, rfl⟩ := mk_some h
      have := he x
      rw [hx] at this
      exact good_boxed ho this hn hm
    · simp at h
  case build t ps =>
    simp only [opA] at h
    split at h
    · rename_i z hz
      split at h
      · rename_i pl hpl
        split at h
        · rename_i cs' hf
          simp only [Option.some.injEq, Prod.mk.injEq] at h
          obtain ⟨rfl, rfl, rfl⟩ := h
          exact good_build ho hz hpl hf he hm
        · simp at h
      · simp at h
    · simp at h
  case buildSlice t len ps =>
    simp only [opA] at h
    split at h
    · rename_i el hu
      split at h
      · rename_i ty hty
        split at h
        · rename_i xs hr
          split at h
          · rename_i zg hz
            cases hb : (Nat.beq xs.length len && Nat.ble (len * ty.size) 16777216) with
            | false => rw [hb] at h; simp at h
            | true =>
              rw [hb] at h
              rw [Bool.and_eq_true] at hb
              obtain ⟨hn, rfl, rfl, rfl⟩ := mk_some h
              exact good_rowS ho hu hty hr hz (Nat.eq_of_beq_eq_true hb.1) (Nat.le_of_ble_eq_true hb.2) hn he hm
          · simp at h
        · simp at h
      · simp at h
    · simp at h
  case load t x =>
    simp only [opA] at h
    exact (good_load ho h (he x) hm).1
  case store t x y =>
    simp only [opA] at h
    exact (good_store ho h he hm).1
  case nilCheck x =>
    simp only [opA] at h
    split at h
    · rename_i n off hx
      simp only [Option.some.injEq, Prod.mk.injEq] at h
      obtain ⟨rfl, rfl, rfl⟩ := h
      have := he x
      rw [hx] at this
      obtain ⟨hnf, g, hg, hxv⟩ := this.ptr
      refine good_same (u := .pointer (some ⟨g, off, none⟩)) ?_ ⟨_, rfl, hnf, g, hg, rfl⟩ hm
      unfold execOp
      rw [ho]
      simp only [hxv]
      rfl
    · simp at h
  case binOp op t x y t' =>
    simp only [opA] at h
    split at h
    · rename_i c v' hb
      simp only [Option.some.injEq, Prod.mk.injEq] at h
      obtain ⟨rfl, rfl, rfl⟩ := h
      exact good_bin ho hb hc he hm
    · split at h
      · rename_i s hs
        simp only [Option.some.injEq, Prod.mk.injEq] at h
        obtain ⟨rfl, rfl, rfl⟩ := h
        exact (good_eq ho (by assumption) he hm).1 rfl
      · rename_i s hs
        simp only [Option.some.injEq, Prod.mk.injEq] at h
        obtain ⟨rfl, rfl, rfl⟩ := h
        exact (good_eq ho (by assumption) he hm).2 rfl
      · simp at h
  case unOp op t x =>
    simp only [opA] at h
    split at h
    · rename_i v' hv
      simp only [Option.some.injEq, Prod.mk.injEq] at h
      obtain ⟨rfl, rfl, rfl⟩ := h
      exact good_un ho hv he hm
    · simp at h
  case convert s d x =>
    simp only [opA] at h
    split at h
    · rename_i k0 k k1 n hs hd hx
      simp only [Option.some.injEq, Prod.mk.injEq] at h
      obtain ⟨rfl, rfl, rfl⟩ := h
      have := he x
      rw [hx] at this
      refine good_same (u := .int k (wr k n)) ?_ ⟨_, rfl, rfl⟩ hm
      unfold execOp
      rw [ho]
      simp [convert, run_underlying hs, run_underlying hd, this.int, Conv.intToInt, wr_eq]
    · rename_i el x' hs hd hx
      split at h
      · rename_i hel
        split at h
        · rename_i l hl
          simp only [Option.some.injEq, Prod.mk.injEq] at h
          obtain ⟨rfl, rfl, rfl⟩ := h
          have := he x
          rw [hx] at this
          obtain ⟨z, hz, hr⟩ := this
          injection hz with hz _
          subst hz
          have hrd := readL_rel hl hr hm
          refine good_same (u := .string (bstr l)) ?_ ⟨_, rfl, rfl⟩ hm
          obtain ⟨A, c, hv, _⟩ := hrd.out
          have hb := run_bstr (P := P) (w := w) hrd
          have hcv := run_convert_bytes_string (P := P) w s d el A l.length c hs hel hd
          unfold execOp
          rw [ho]
          simp only [Sem.run_bind]
          rw [hv] at hb ⊢
          rw [hcv, hb]
          rfl
        · simp at h
      · simp at h
    · rename_i el s' hs hd hx
      split at h
      case h_2 => simp at h
      rename_i hel hfr
      simp only [Option.some.injEq, Prod.mk.injEq] at h
      obtain ⟨rfl, rfl, rfl⟩ := h
      have hlen := hc (.le (s'.size : Int) 9223372036854775807) (by simp)
      simp only [SB.b, decide_eq_true_eq] at hlen
      have hxs := he x
      rw [hx] at hxs
      have hxv := hxs.str
      exact good_bytes ho hxv hs hd hel hfr (by simp only [maxLen]; omega) hm
    · simp at h
  case extract x i =>
    simp only [opA] at h
    split at h
    · rename_i xs hx
      split at h
      · rename_i g cs' hg
        simp only [Option.some.injEq, Prod.mk.injEq] at h
        obtain ⟨rfl, rfl, rfl⟩ := h
        have := he x
        rw [hx] at this
        obtain ⟨vs, hv, hr⟩ := this
        obtain ⟨u, hu, hua⟩ := hr.get hg
        refine good_same (u := u) ?_ hua hm
        have hu' : vs[i]? = some u := by simpa using hu
        unfold execOp
        rw [ho]
        simp [hv, Instr.extract, hu']
      · simp at h
    · simp at h
  case field t x f =>
    simp only [opA] at h
    split at h
    · rename_i cs' off ft hx hf
      split at h
      · rename_i v' hv
        simp only [Option.some.injEq, Prod.mk.injEq] at h
        obtain ⟨rfl, rfl, rfl⟩ := h
        have := he x
        rw [hx] at this
        obtain ⟨vs, hxv, hr⟩ := this
        obtain ⟨fs, fd, hu, hfd, rfl, rfl⟩ := fieldOf_some hf
        obtain ⟨u, hpu, hvu⟩ := part_run (P := P) (w := w) hv hr
        refine good_same (u := u) ?_ hvu hm
        unfold execOp
        rw [ho]
        simp [hxv, Instr.field, run_underlying hu, hfd, asAgg, hpu]
      · simp at h
    · simp at h
  case fieldAddr t x f =>
    simp only [opA] at h
    split at h
    · rename_i off ft hf
      split at h
      · rename_i n hs
        split at h
        · rename_i n' o' hx
          simp only [Option.some.injEq, Prod.mk.injEq] at h
          obtain ⟨rfl, rfl, rfl⟩ := h
          have := he x
          rw [hx] at this
          obtain ⟨hnf, g, hg, hxv⟩ := this.ptr
          have hrun := fieldAt_run (P := P) (w := w) (a := ⟨g, o', none⟩) hf hs
          refine good_same (u := .pointer (some ⟨g, o' + off, none⟩)) ?_ ⟨_, rfl, hnf, g, hg, rfl⟩ hm
          unfold execOp
          rw [ho]
          simp [hxv, hrun, Addr.add_mid]
        · rename_i n' sz i o' hx
          simp only [Option.some.injEq, Prod.mk.injEq] at h
          obtain ⟨rfl, rfl, rfl⟩ := h
          have := he x
          rw [hx] at this
          obtain ⟨hnf, A, L, c, hg, hxv, h0, h1⟩ := this.ep
          have hrun := fieldAt_run (P := P) (w := w) (a := A.add (i.toNat * sz + o')) hf hs
          refine good_same (u := .pointer (some (A.add (i.toNat * sz + (o' + off))))) ?_ ⟨_, rfl, hnf, A, L, c, hg, rfl, h0, h1⟩ hm
          unfold execOp
          rw [ho]
          simp only [hxv, Sem.run_bind, hrun, Result.andThen_ok, Addr.add_add, Nat.add_assoc]
          rfl
        · simp at h
      · simp at h
    · simp at h
  case index t x i =>
    simp only [opA] at h
    split at h
    · rename_i s k n hu hx hi
      simp only [Option.some.injEq, Prod.mk.injEq] at h
      obtain ⟨rfl, rfl, rfl⟩ := h
      have h1 := he x
      rw [hx] at h1
      have h2 := he i
      rw [hi] at h2
      have c1 := hc (.le 0 n) (by simp)
      have c2 := hc (.lt n (s.size : Int)) (by simp)
      simp only [SB.b, decide_eq_true_eq] at c1 c2
      have hlt : n.toNat < s.size := by omega
      refine good_same (u := .int .u8 (byt s n)) ?_ ⟨_, rfl, rfl⟩ hm
      unfold execOp
      rw [ho]
      have hget : s[n.toNat]? = some (s[n.toNat]'hlt) := getElem?_pos s n.toNat hlt
      simp [h1.str, h2.int, Instr.index, asIntOf, run_underlying hu, c1, hget, byt, hlt]
    · simp at h
  case indexAddr t x i =>
    simp only [opA] at h
    split at h
    · rename_i el n k j hu hx hi
      split at h
      · rename_i m hs
        have h1 := he x
        rw [hx] at h1
        have h2 := he i
        rw [hi] at h2
        split at h
        · rename_i ty l e' hen
          cases hb : (rdOk av n && Nat.beq m ty.size) with
          | false => rw [hb] at h; simp at h
          | true =>
            rw [hb] at h
            simp only [cnd_true, Option.some.injEq, Prod.mk.injEq] at h
            obtain ⟨rfl, rfl, rfl⟩ := h
            have c1 := hc (.le 0 j) (by simp)
            have c2 := hc (.lt j (l.length : Int)) (by simp)
            simp only [SB.b, decide_eq_true_eq] at c1 c2
            exact good_index ho hu h1 h2 hs (.inl hen) c1 c2 hm
        · rename_i ty l e' hen
          cases hb : Nat.beq m ty.size with
          | false => rw [hb] at h; simp at h
          | true =>
            rw [hb] at h
            simp only [cnd_true, Option.some.injEq, Prod.mk.injEq] at h
            obtain ⟨rfl, rfl, rfl⟩ := h
            have c1 := hc (.le 0 j) (by simp)
            have c2 := hc (.lt j (l.length : Int)) (by simp)
            simp only [SB.b, decide_eq_true_eq] at c1 c2
            exact good_index ho hu h1 h2 hs (.inr (.inl hen)) c1 c2 hm
        · rename_i ty l e' hen
          cases hb : (rdOk av n && Nat.beq m ty.size) with
          | false => rw [hb] at h; simp at h
          | true =>
            rw [hb] at h
            simp only [cnd_true, Option.some.injEq, Prod.mk.injEq] at h
            obtain ⟨rfl, rfl, rfl⟩ := h
            have c1 := hc (.le 0 j) (by simp)
            have c2 := hc (.lt j (l.length : Int)) (by simp)
            simp only [SB.b, decide_eq_true_eq] at c1 c2
            exact good_index ho hu h1 h2 hs (.inr (.inr hen)) c1 c2 hm
        · rename_i nt l e' hen
          cases hb : Nat.beq m nt.size with
          | false => rw [hb] at h; simp at h
          | true =>
            rw [hb] at h
            simp only [cnd_true, Option.some.injEq, Prod.mk.injEq] at h
            obtain ⟨rfl, rfl, rfl⟩ := h
            have c1 := hc (.le 0 j) (by simp)
            have c2 := hc (.lt j (l.length : Int)) (by simp)
            simp only [SB.b, decide_eq_true_eq] at c1 c2
            exact good_indexN ho hu h1 h2 hs (.inl hen) c1 c2 hm
        · rename_i nt l e' hen
          cases hb : (rdOk av n && Nat.beq m nt.size) with
          | false => rw [hb] at h; simp at h
          | true =>
            rw [hb] at h
            simp only [cnd_true, Option.some.injEq, Prod.mk.injEq] at h
            obtain ⟨rfl, rfl, rfl⟩ := h
            have c1 := hc (.le 0 j) (by simp)
            have c2 := hc (.lt j (l.length : Int)) (by simp)
            simp only [SB.b, decide_eq_true_eq] at c1 c2
            exact good_indexN ho hu h1 h2 hs (.inr hen) c1 c2 hm
        · simp at h
      · simp at h
    · simp at h
  case slice t x lo hi mx =>
    cases mx with
    | some y => simp [opA] at h
    | none =>
      simp only [opA] at h
      exact good_slice ho h hc he hm
  case makeSlice t n c =>
    simp only [opA] at h
    split at h
    · rename_i ka a kb b hn hcc
      have h1 := he n
      rw [hn] at h1
      have h2 := he c
      rw [hcc] at h2
      split at h
      · rename_i el hu
        split at h
        · rename_i ty by_ hty hby
          split at h
          · rename_i hf
            split at h
            · rename_i zg z hz
              split at h
              · rename_i hzE
                cases hb : Nat.blt 0 by_ with
                | false => rw [hb] at h; simp at h
                | true =>
                  rw [hb] at h
                  simp only [cnd_true, Option.some.injEq, Prod.mk.injEq] at h
                  obtain ⟨rfl, rfl, rfl⟩ := h
                  have c1 := hc (.eq a b) (by simp)
                  have c2 := hc (.le 0 a) (by simp)
                  have c3 := hc (.le (a * by_) 140737488355328) (by simp)
                  simp only [SB.b, decide_eq_true_eq] at c1 c2 c3
                  exact good_make ho h1 h2 hu hty hby hf hz hzE hb c1 c2 c3 hm
              · simp at h
            · simp at h
          · simp at h
        · rename_i by_ hty hby
          split at h
          · rename_i hf
            split at h
            · rename_i nt hnt
              split at h
              · rename_i zg z hz
                split at h
                · rename_i hzE
                  cases hb : Nat.blt 0 by_ with
                  | false => rw [hb] at h; simp at h
                  | true =>
                    rw [hb] at h
                    simp only [cnd_true, Option.some.injEq, Prod.mk.injEq] at h
                    obtain ⟨rfl, rfl, rfl⟩ := h
                    have c1 := hc (.eq a b) (by simp)
                    have c2 := hc (.le 0 a) (by simp)
                    have c3 := hc (.le (a * by_) 140737488355328) (by simp)
                    simp only [SB.b, decide_eq_true_eq] at c1 c2 c3
                    exact good_makeN ho h1 h2 hu hnt hby hf hz hzE hb c1 c2 c3 hm
                · simp at h
              · simp at h
            · simp at h
          · simp at h
        · simp at h
      · simp at h
    · simp at h
  case call c =>
    obtain ⟨callee, as, ts⟩ := c
    cases callee with
    | value f => simp [opA] at h
    | invoke r m => simp [opA] at h
    | builtin b =>
      simp only [opA] at h
      have run : ∀ u, (∀ (w' : World), True) → ((builtin b ts o.type (as.map fun | .const _ => true | _ => false) (as.map ρ)).run P w = .ok (.value u) w) → (execOp ρ o).run P w = .ok (.value u) w := by
        intro u _ hr
        unfold execOp
        simp only [ho, resolve, invoke, Sem.run_bind, Sem.run_pure, Result.andThen_ok]
        exact hr
      have hargs : ∀ (j : Nat) (x : SV), (as.toList.map e)[j]? = some x → ∃ v, (as.map ρ).toList[j]? = some v ∧ VRel hp ν x v := by
        intro j x hj
        simp only [List.getElem?_map, Option.map_eq_some_iff] at hj
        obtain ⟨p, hp1, rfl⟩ := hj
        exact ⟨ρ p, by simp only [Array.toList_map, List.getElem?_map, hp1, Option.map_some], he p⟩
      unfold builtinA at h
      split at h
      · rename_i x hx
        split at h
        case h_2 => simp at h
        rename_i t ht
        split at h
        case h_2 => simp at h
        rename_i n hn
        simp only [Option.some.injEq, Prod.mk.injEq] at h
        obtain ⟨rfl, rfl, rfl⟩ := h
        obtain ⟨u, hu, hux⟩ := hargs 0 x (by rw [hx]; rfl)
        have hlen : as.size = 1 := by have := congrArg List.length hx; simpa using this
        have has : as.map ρ = #[u] := by
          apply Array.ext'
          have hl : (as.map ρ).toList.length = 1 := by simp [hlen]
          match hq : (as.map ρ).toList, hl with
          | [a], _ => rw [hq] at hu; simp at hu; rw [hu]
        have hts : ts = #[t] := Array.ext' ht
        refine good_same (u := .int .i64 n) (run _ (fun _ => trivial) ?_) ⟨_, rfl, rfl⟩ hm
        have := lenA_run (P := P) (w := w) hn hux hm o.type
        rw [has, hts]
        simp [builtin, this]
      · rename_i k a r hx
        split at h
        case h_2 => simp at h
        rename_i n hn
        simp only [Option.some.injEq, Prod.mk.injEq] at h
        obtain ⟨rfl, rfl, rfl⟩ := h
        refine good_same (u := .int k n) (run _ (fun _ => trivial) ?_) ⟨_, rfl, rfl⟩ hm
        obtain ⟨u, hu, hux⟩ := hargs 0 (.a false [.int k a]) (by rw [hx]; rfl)
        have hu2 := hux.int
        subst hu2
        obtain ⟨vs, hvs⟩ : ∃ vs, (as.map ρ).toList = .int k a :: vs := by
          match hq : (as.map ρ).toList with
          | [] => rw [hq] at hu; simp at hu
          | y :: ys => rw [hq] at hu; simp at hu; exact ⟨ys, by rw [hu]⟩
        have hl : r.length = vs.length := by
          have h1 := congrArg List.length hx
          have h2 := congrArg List.length hvs
          simp at h1 h2
          omega
        have hf := foldI_run (P := P) (w := w) (hp := hp) (ν := ν) (f := mn) (g := Builtin.min2) (k := k) (fun a b => rfl) r vs a n hn hl (fun j x hj => by
          obtain ⟨u, hu, hux⟩ := hargs (j + 1) x (by rw [hx]; simpa using hj)
          exact ⟨u, by rw [hvs] at hu; simpa using hu, hux⟩)
        simp only [builtin, Builtin.min_, hvs, Sem.run_bind, hf, Result.andThen_ok]
        rfl
      · rename_i k a r hx
        split at h
        case h_2 => simp at h
        rename_i n hn
        simp only [Option.some.injEq, Prod.mk.injEq] at h
        obtain ⟨rfl, rfl, rfl⟩ := h
        refine good_same (u := .int k n) (run _ (fun _ => trivial) ?_) ⟨_, rfl, rfl⟩ hm
        obtain ⟨u, hu, hux⟩ := hargs 0 (.a false [.int k a]) (by rw [hx]; rfl)
        have hu2 := hux.int
        subst hu2
        obtain ⟨vs, hvs⟩ : ∃ vs, (as.map ρ).toList = .int k a :: vs := by
          match hq : (as.map ρ).toList with
          | [] => rw [hq] at hu; simp at hu
          | y :: ys => rw [hq] at hu; simp at hu; exact ⟨ys, by rw [hu]⟩
        have hl : r.length = vs.length := by
          have h1 := congrArg List.length hx
          have h2 := congrArg List.length hvs
          simp at h1 h2
          omega
        have hf := foldI_run (P := P) (w := w) (hp := hp) (ν := ν) (f := mx) (g := Builtin.max2) (k := k) (fun a b => rfl) r vs a n hn hl (fun j x hj => by
          obtain ⟨u, hu, hux⟩ := hargs (j + 1) x (by rw [hx]; simpa using hj)
          exact ⟨u, by rw [hvs] at hu; simpa using hu, hux⟩)
        simp only [builtin, Builtin.max_, hvs, Sem.run_bind, hf, Result.andThen_ok]
        rfl
      · rename_i s x hx
        split at h
        case h_2 => simp at h
        rename_i t t' ht
        cases hb : Nat.beq t t' with
        | false => rw [hb] at h; simp at h
        | true =>
          rw [hb] at h
          simp only [cnd_true] at h
          have htt := Nat.eq_of_beq_eq_true hb
          subst htt
          have hts : ts = #[t, t] := Array.ext' ht
          obtain ⟨ps, px, has, rfl, rfl⟩ : ∃ ps px, as.toList = [ps, px] ∧ s = e ps ∧ x = e px := by
            match hq : as.toList with
            | [a, b] => rw [hq] at hx; simp at hx; exact ⟨a, b, rfl, hx.1.symm, hx.2.symm⟩
            | [] => rw [hq] at hx; simp at hx
            | [a] => rw [hq] at hx; simp at hx
            | a :: b :: c :: r => rw [hq] at hx; simp at hx
          have has' : as = #[ps, px] := Array.ext' has
          subst hts has'
          exact good_append ho h hc he hm
      · simp at h
  all_goals (simp [opA] at h)
end
end Go.Sx
/- The continuation style and the direct style tell the same. -/
set_option linter.unusedVariables false
set_option linter.unusedSimpArgs false
namespace Go.Sx
section
variable {R S : Type}
theorem cond_bind {s : SB} {x y : Option R} {f : R → Option S} : (s.cond x y).bind f = s.cond (x.bind f) (y.bind f) := by
  rw [cond_b, cond_b]; split <;> rfl
theorem chks_bind : ∀ (cs : List SB) (x : Option R) (f : R → Option S), (chks cs x).bind f = chks cs (x.bind f)
  | [], _, _ => rfl
  | s :: r, x, f => by
    simp only [chks]
    rw [cond_bind, chks_bind r x f]
    rfl
theorem chks_some : ∀ {cs : List SB} {x : Option R} {r : R}, chks cs x = some r → (∀ s ∈ cs, s.b = true) ∧ x = some r
  | [], _, _, h => ⟨fun _ hs => (by cases hs), h⟩
  | s :: q, x, r, h => by
    simp only [chks, cond_b] at h
    split at h
    · rename_i hs
      obtain ⟨h1, h2⟩ := chks_some h
      exact ⟨fun t ht => (by
        cases ht with
        | head => exact hs
        | tail _ ht => exact h1 t ht), h2⟩
    · cases h
/-- What is known is so. -/
def KnOK (kn : Kn) (σ : St) : Prop := ∀ t b s, kn? kn t = some b → σ.tm t = .a false [.bool s] → s.b = b
theorem KnOK.nil (σ : St) : KnOK [] σ := fun _ _ _ h _ => by cases h
theorem beq_ne {a b : Nat} (h : a ≠ b) : Nat.beq a b = false := by
  cases hb : Nat.beq a b with
  | false => rfl
  | true => exact absurd (Nat.eq_of_beq_eq_true hb) h
theorem beq_self' (a : Nat) : Nat.beq a a = true := Nat.beq_refl a
theorem knOut_other {t d : Nat} (h : t ≠ d) : ∀ kn : Kn, kn? (knOut kn d) t = kn? kn t
  | [] => rfl
  | (e, b) :: r => by
    simp only [knOut]
    by_cases hed : e = d
    · subst hed
      rw [beq_self', cnd_true, knOut_other h r]
      simp only [kn?]
      rw [beq_ne (fun e => h e.symm), cnd_false]
    · rw [beq_ne hed, cnd_false]
      simp only [kn?]
      rw [knOut_other h r]
theorem knOut_same (d : Nat) : ∀ kn : Kn, kn? (knOut kn d) d = none
  | [] => rfl
  | (e, b) :: r => by
    simp only [knOut]
    by_cases hed : e = d
    · subst hed; rw [beq_self', cnd_true, knOut_same e r]
    · rw [beq_ne hed, cnd_false]
      simp only [kn?]
      rw [beq_ne hed, cnd_false, knOut_same d r]
theorem askK_inv {kn : Kn} {x : Operand} {σ : St} {s : SB} {K : Kn → Bool → Option R} {r : R} (h : askK kn x s K = some r) (hk : KnOK kn σ) (hx : ∀ t, x = .tmp t → σ.tm t = .a false [.bool s]) :
    ∃ kn', K kn' s.b = some r ∧ KnOK kn' σ := by
  unfold askK at h
  split at h
  · rename_i t
    split at h
    · rename_i b hb
      have := hk t b s hb (hx t rfl)
      exact ⟨kn, by rw [this]; exact h, hk⟩
    · rw [cond_b] at h
      have key : ∀ b, s.b = b → KnOK ((t, b) :: kn) σ := by
        intro b hb t' b' s' h1 h2
        simp only [kn?] at h1
        by_cases ht : t = t'
        · subst ht
          rw [beq_self', cnd_true] at h1
          injection h1 with h1
          subst h1
          rw [hx t rfl] at h2
          injection h2 with _ h2
          injection h2 with h2 _
          injection h2 with h2
          subst h2
          exact hb
        · rw [beq_ne ht, cnd_false] at h1
          exact hk t' b' s' h1 h2
      split at h
      · rename_i hs; exact ⟨_, by rw [hs]; exact h, key true hs⟩
      · rename_i hs
        have hs' : s.b = false := by simpa using hs
        exact ⟨_, by rw [hs']; exact h, key false hs'⟩
  · rw [cond_b] at h
    split at h
    · rename_i hs; exact ⟨kn, by rw [hs]; exact h, hk⟩
    · rename_i hs
      have hs' : s.b = false := by simpa using hs
      exact ⟨kn, by rw [hs']; exact h, hk⟩
theorem callK_inv {con : Con} {av : Av} {k : Nat} {args : List SV} {nm : Nat} {hp : Hp} {K : SV → Hp → Option R} {r : R} (h : callK con av k args nm hp K = some r) :
    ∃ x b, mAs hp con.ak args = some x ∧ con.fn k x = some b ∧ (((ptrs con.ak args).all (wrOk av) && apN con.ak args) && (freeN hp nm (OK.news con.rk) && Nat.ble (OK.news con.rk) 16)) = true ∧
      K (resV con.nres (inOs args con.nres (ptrs con.ak args) con.rk b nm hp).1) (inOs args con.nres (ptrs con.ak args) con.rk b nm hp).2 = some r := by
  unfold callK at h
  split at h
  · cases h
  · rename_i x hx
    cases hc : (((ptrs con.ak args).all (wrOk av) && apN con.ak args) && (freeN hp nm (OK.news con.rk) && Nat.ble (OK.news con.rk) 16)) with
    | false => rw [hc] at h; simp at h
    | true =>
      rw [hc] at h
      simp only [cnd_true] at h
      cases hf : con.fn k x with
      | none => rw [hf] at h; simp at h
      | some b =>
        rw [hf] at h
        exact ⟨x, b, hx, hf, rfl, h⟩
/-- The three ways of one operation. -/
inductive Ways (C : Ctx) (av : Av) (o : Oper) (nm : Nat) (σ : St) : SV → Hp → Prop
  | pick (c a b : Operand) (s : SB) (ho : o.op = .pick c a b) (hs : ev σ.tm c = .a false [.bool s]) : Ways C av o nm σ (if s.b = true then ev σ.tm a else ev σ.tm b) σ.hp
  | call (f : FuncId) (as : Array Operand) (ts : Array TypeId) (con : Con) (x : AKs con.ak) (b : OKs con.rk) (ho : o.op = .call { callee := .value (.func f), args := as, argTypes := ts }) (hG : C.G f = some con)
      (hx : mAs σ.hp con.ak (as.toList.map (ev σ.tm)) = some x) (hf : con.fn C.k x = some b)
      (hc : (((ptrs con.ak (as.toList.map (ev σ.tm))).all (wrOk av) && apN con.ak (as.toList.map (ev σ.tm))) && (freeN σ.hp nm (OK.news con.rk) && Nat.ble (OK.news con.rk) 16)) = true) :
      Ways C av o nm σ (resV con.nres (inOs (as.toList.map (ev σ.tm)) con.nres (ptrs con.ak (as.toList.map (ev σ.tm))) con.rk b nm σ.hp).1) (inOs (as.toList.map (ev σ.tm)) con.nres (ptrs con.ak (as.toList.map (ev σ.tm))) con.rk b nm σ.hp).2
  | op (cs : List SB) (v : SV) (hp : Hp) (ho : opA C.P av o.op (ev σ.tm) nm σ.hp = some (cs, v, hp)) (hc : ∀ s ∈ cs, s.b = true) : Ways C av o nm σ v hp
theorem execK_inv {C : Ctx} {av : Av} {o : Oper} {nm : Nat} {kn : Kn} {σ : St} {K : Kn → St → Option R} {r : R} (h : execK C av o nm kn σ K = some r) (hk : KnOK kn σ) :
    ∃ v hp kn', Ways C av o nm σ v hp ∧ putK C.N kn' σ hp o.dst v K = some r ∧ KnOK kn' σ := by
  unfold execK at h
  split at h
  · rename_i c a b ho
    split at h
    · rename_i s hs
      obtain ⟨kn', h1, h2⟩ := askK_inv (σ := σ) h hk (fun t ht => by subst ht; exact hs)
      refine ⟨_, _, kn', .pick c a b s ho hs, ?_, h2⟩
      cases hb : s.b with
      | true => rw [hb] at h1; simpa using h1
      | false => rw [hb] at h1; simpa using h1
    · cases h
  · rename_i f as ts ho
    split at h
    · rename_i con hG
      obtain ⟨x, b, hx, hf, hc, h1⟩ := callK_inv h
      exact ⟨_, _, kn, .call f as ts con x b ho hG hx hf hc, h1, hk⟩
    · cases h
  · split at h
    · rename_i cs v hp ho
      obtain ⟨h1, h2⟩ := chks_some h
      exact ⟨_, _, kn, .op cs v hp ho h1, h2, hk⟩
    · cases h
def putT (tm : Nat → SV) (dst : Option Tmp) (v : SV) : Nat → SV :=
  match dst with
  | some d => upd tm d v
  | none => tm
/-- One operation of a region, in the direct style. -/
inductive Step (C : Ctx) (av : Av) (ops : List Oper) (i : Nat) (σ : St) : St → Prop
  | go (o : Oper) (ho : ops[i]? = some o) (hg : o.guard = none ∨ ∃ g want d s, o.guard = some (g, want) ∧ (ops[g]?).bind (·.dst) = some d ∧ σ.tm d = .a false [.bool s] ∧ s.b = want) (v : SV) (hp : Hp)
      (hw : Ways C av o (σ.nx + 16 * i) σ v hp) (hd : ∀ d, o.dst = some d → d < C.N) : Step C av ops i σ ⟨putT σ.tm o.dst v, hp, σ.nx⟩
  | skip (o : Oper) (ho : ops[i]? = some o) (g : Nat) (want : Bool) (d : Nat) (hg : o.guard = some (g, want)) (hd : (ops[g]?).bind (·.dst) = some d) (hs : (∃ s, σ.tm d = .a false [.bool s] ∧ s.b ≠ want) ∨ ∃ xs, σ.tm d = .tup xs)
      (hd : ∀ d, o.dst = some d → d < C.N) : Step C av ops i σ ⟨putT σ.tm o.dst (.tup []), σ.hp, σ.nx⟩
theorem putK_out {N : Nat} {kn : Kn} {σ : St} {hp : Hp} {dst : Option Tmp} {v : SV} {K : Kn → St → Option R} {r : R} (h : putK N kn σ hp dst v K = some r) (hk : KnOK kn σ) :
    (∀ d, dst = some d → d < N) ∧ ∃ kn', K kn' ⟨putT σ.tm dst v, hp, σ.nx⟩ = some r ∧ KnOK kn' ⟨putT σ.tm dst v, hp, σ.nx⟩ := by
  cases dst with
  | none => exact ⟨fun _ h => (by cases h), kn, h, hk⟩
  | some d =>
    simp only [putK] at h
    cases hb : Nat.blt d N with
    | false => rw [hb] at h; simp at h
    | true =>
      rw [hb] at h
      refine ⟨fun d' hd' => by injection hd' with hd'; subst hd'; exact Nat.le_of_ble_eq_true hb, knOut kn d, h, fun t b s h1 h2 => ?_⟩
      by_cases ht : t = d
      · subst ht; rw [knOut_same] at h1; cases h1
      · rw [knOut_other ht] at h1
        have h2' : (upd σ.tm d v) t = .a false [.bool s] := h2
        rw [upd_other _ _ ht] at h2'
        exact hk t b s h1 h2'
theorem stepK_inv {C : Ctx} {av : Av} {ops : List Oper} {i : Nat} {kn : Kn} {σ : St} {K : Kn → St → Option R} {r : R} (h : stepK C av ops i kn σ K = some r) (hk : KnOK kn σ) :
    ∃ σ' kn', Step C av ops i σ σ' ∧ K kn' σ' = some r ∧ KnOK kn' σ' := by
  unfold stepK at h
  split at h
  · cases h
  · rename_i o ho
    have go : ∀ (hg : o.guard = none ∨ ∃ g want d s, o.guard = some (g, want) ∧ (ops[g]?).bind (·.dst) = some d ∧ σ.tm d = .a false [.bool s] ∧ s.b = want) kn, KnOK kn σ → execK C av o (σ.nx + 16 * i) kn σ K = some r →
        ∃ σ' kn', Step C av ops i σ σ' ∧ K kn' σ' = some r ∧ KnOK kn' σ' := by
      intro hg kn hk h
      obtain ⟨v, hp, kn1, hw, h1, hk1⟩ := execK_inv h hk
      obtain ⟨hd, kn2, h2, hk2⟩ := putK_out h1 hk1
      exact ⟨_, kn2, .go o ho hg v hp hw hd, h2, hk2⟩
    split at h
    · rename_i hg
      exact go (.inl hg) kn hk h
    · rename_i g want hg
      split at h
      · cases h
      · rename_i d hd
        have sk : ((∃ s, σ.tm d = .a false [.bool s] ∧ s.b ≠ want) ∨ ∃ xs, σ.tm d = .tup xs) → ∀ kn, KnOK kn σ → putK C.N kn σ σ.hp o.dst (.tup []) K = some r → ∃ σ' kn', Step C av ops i σ σ' ∧ K kn' σ' = some r ∧ KnOK kn' σ' := by
          intro hs kn hk h
          obtain ⟨hdd, kn2, h2, hk2⟩ := putK_out h hk
          exact ⟨_, kn2, .skip o ho g want d hg hd hs hdd, h2, hk2⟩
        split at h
        · rename_i s hs
          obtain ⟨kn', h1, h2⟩ := askK_inv (σ := σ) h hk (fun t ht => by injection ht with ht; subst ht; exact hs)
          cases hw : want with
          | true =>
            subst hw
            cases hb : s.b with
            | true => rw [hb] at h1; exact go (.inr ⟨g, true, d, s, hg, hd, hs, hb⟩) kn' h2 h1
            | false => rw [hb] at h1; exact sk (.inl ⟨s, hs, by rw [hb]; simp⟩) kn' h2 h1
          | false =>
            subst hw
            cases hb : s.b with
            | true => rw [hb] at h1; exact sk (.inl ⟨s, hs, by rw [hb]; simp⟩) kn' h2 h1
            | false => rw [hb] at h1; exact go (.inr ⟨g, false, d, s, hg, hd, hs, hb⟩) kn' h2 h1
        · rename_i xs hs
          exact sk (.inr ⟨xs, hs⟩) kn hk h
        · cases h
/-- A region's operations one behind the other. -/
inductive Steps' (C : Ctx) (av : Nat → Av) (ops : List Oper) : List Nat → St → St → Prop
  | nil (σ : St) : Steps' C av ops [] σ σ
  | cons {i : Nat} {l : List Nat} {σ σ1 σ2 : St} (h : Step C (av i) ops i σ σ1) (r : Steps' C av ops l σ1 σ2) : Steps' C av ops (i :: l) σ σ2
theorem runK_inv {C : Ctx} {av : Nat → Av} {ops : List Oper} {K : St → Option R} {r : R} : ∀ {l : List Nat} {kn : Kn} {σ : St}, runK C av ops l kn σ K = some r → KnOK kn σ → ∃ σ', Steps' C av ops l σ σ' ∧ K σ' = some r
  | [], kn, σ, h, hk => ⟨σ, .nil σ, h⟩
  | i :: l, kn, σ, h, hk => by
    simp only [runK] at h
    obtain ⟨σ1, kn1, h1, h2, h3⟩ := stepK_inv h hk
    obtain ⟨σ2, h4, h5⟩ := runK_inv h2 h3
    exact ⟨σ2, .cons h1 h4, h5⟩
end
end Go.Sx
/- One operation, a region: what the symbolic steps say of the machine's. -/
set_option linter.unusedVariables false
set_option linter.unusedSimpArgs false
namespace Go.Sx
/-- A call's own place: the world that it began in, the names that it was handed. -/
structure Cx where
  base : Nat
  G : Nat → Prop
  w0 : World
  hp0 : Hp
  ν0 : Nat → Value
  N : Nat
structure HoldsAt (A : Cx) (σ : St) (a : Act) (w : World) (ν : Nat → Value) : Prop where
  tm : ∀ t, VRel σ.hp ν (σ.tm t) (a.tmps.getD t undef)
  mem : Mem A.base A.G A.w0 w σ.hp ν
  ext : Ext A.hp0 A.ν0 σ.hp ν
  defers : a.defers = []
  size : a.tmps.size = A.N
def Holds (A : Cx) (σ : St) (a : Act) (w : World) : Prop := ∃ ν, HoldsAt A σ a w ν
def VsRel (hp : Hp) (ν : Nat → Value) : List SV → List Value → Prop
  | [], [] => True
  | x :: xs, v :: vs => VRel hp ν x v ∧ VsRel hp ν xs vs
  | _, _ => False
/-- A function that is entered when it is called. -/
def Enters (P : Program) (f : FuncId) : Prop := ∃ fn, P.funcs[f]? = some fn ∧ (fn.name == "runtime.NumGoroutine") = false ∧ fn.body.isNone = false
/-- A contract that the program keeps. -/
def CtrOK (P : Program) (f : FuncId) (C : Con) : Prop :=
  Enters P f ∧ ∀ (k : Nat) (x : AKs C.ak) (b : OKs C.rk), C.fn k x = some b → ∀ (base : Nat) (G : Nat → Prop) (w0 w : World) (hp : Hp) (ν : Nat → Value) (args : List SV) (vargs : Array Value) (nm : Nat),
    Mem base G w0 w hp ν → VsRel hp ν args vargs.toList → mAs hp C.ak args = some x → apN C.ak args = true → freeN hp nm (OK.news C.rk) = true →
    Calls P f vargs w fun e w' => ∃ v ν', e = .returned v ∧ VRel (inOs args C.nres (ptrs C.ak args) C.rk b nm hp).2 ν' (resV C.nres (inOs args C.nres (ptrs C.ak args) C.rk b nm hp).1) v ∧
      Mem base G w0 w' (inOs args C.nres (ptrs C.ak args) C.rk b nm hp).2 ν' ∧ Ext hp ν (inOs args C.nres (ptrs C.ak args) C.rk b nm hp).2 ν'
section
variable {A : Cx} {C : Ctx} {av : Av} {σ : St} {a : Act} {w : World}
theorem ev_rel {hp : Hp} {ν : Nat → Value} {tm : Nat → SV} (h : ∀ t, VRel hp ν (tm t) (a.tmps.getD t undef)) (x : Operand) : VRel hp ν (ev tm x) (a.eval x) := by
  cases x with
  | tmp t => exact h t
  | const v => exact SV.ofV_rel v
  | global g => trivial
  | func f => trivial
theorem put_rel {hp : Hp} {ν : Nat → Value} {tm : Nat → SV} (h : ∀ t, VRel hp ν (tm t) (a.tmps.getD t undef)) {dst : Option Tmp} {v : SV} {u : Value} (hv : VRel hp ν v u) (hd : ∀ d, dst = some d → d < a.tmps.size) :
    ∀ t, VRel hp ν (putT tm dst v t) ((a.put dst u).tmps.getD t undef) := by
  intro t
  cases dst with
  | none => exact h t
  | some d =>
    have hlt := hd d rfl
    simp only [putT, Act.put]
    by_cases ht : t = d
    · subst ht
      rw [upd_same]
      have : (a.tmps.setIfInBounds t u).getD t undef = u := by simp [Array.getD, hlt]
      rw [this]
      exact hv
    · rw [upd_other _ _ ht]
      have : (a.tmps.setIfInBounds d u).getD t undef = a.tmps.getD t undef := by
        simp only [Array.getD_eq_getD_getElem?]
        rw [Array.getElem?_setIfInBounds_ne (fun e => ht e.symm)]
      rw [this]
      exact h t
theorem put_size (a : Act) (dst : Option Tmp) (u : Value) : (a.put dst u).tmps.size = a.tmps.size := by cases dst <;> simp [Act.put]
theorem put_defers (a : Act) (dst : Option Tmp) (u : Value) : (a.put dst u).defers = a.defers := by cases dst <;> rfl
/-- Behind an operation. -/
theorem HoldsAt.put {ν ν' : Nat → Value} (h : HoldsAt A σ a w ν) {hp' : Hp} {w' : World} {dst : Option Tmp} {v : SV} {u : Value} (hv : VRel hp' ν' v u) (hm : Mem A.base A.G A.w0 w' hp' ν') (hx : Ext σ.hp ν hp' ν') (hd : ∀ d, dst = some d → d < A.N) :
    HoldsAt A ⟨putT σ.tm dst v, hp', σ.nx⟩ (a.put dst u) w' ν' :=
  ⟨put_rel (fun t => (h.tm t).mono hx) hv (fun d e => by rw [h.size]; exact hd d e), hm, h.ext.trans hx, by rw [put_defers]; exact h.defers, by rw [put_size]; exact h.size⟩
theorem undef_rel (hp : Hp) (ν : Nat → Value) : VRel hp ν (.tup []) undef := ⟨#[], rfl, trivial⟩
theorem vs_of_map {hp : Hp} {ν : Nat → Value} {e : Operand → SV} {ρ : Operand → Value} (he : ∀ x, VRel hp ν (e x) (ρ x)) : ∀ xs : List Operand, VsRel hp ν (xs.map e) (xs.map ρ)
  | [] => trivial
  | x :: xs => ⟨he x, vs_of_map he xs⟩
theorem ways_sound {o : Oper} {nm : Nat} {v : SV} {hp' : Hp} {ν : Nat → Value} {Q : Exit → Act → World → Prop} (h : Ways C av o nm σ v hp') (hH : HoldsAt A σ a w ν) (hG : ∀ f con, C.G f = some con → CtrOK C.P f con) (hd : ∀ d, o.dst = some d → d < A.N) :
    o.wp C.P a w (fun a' w' => Holds A ⟨putT σ.tm o.dst v, hp', σ.nx⟩ a' w') Q := by
  have he := ev_rel (a := a) hH.tm
  cases h with
  | pick c x y s ho hs =>
    have hb := he c
    rw [hs] at hb
    have hrun : (execOp a.eval o).run C.P w = .ok (.value (if s.b = true then a.eval x else a.eval y)) w := by
      unfold execOp
      rw [ho]
      simp [hb.bool, asBool]
    unfold Oper.wp
    rw [hrun]
    refine ⟨ν, hH.put ?_ hH.mem (.refl _ _) hd⟩
    split
    · exact he x
    · exact he y
  | call f as ts con x b ho hf hx hfn hc =>
    rw [Bool.and_eq_true, Bool.and_eq_true, Bool.and_eq_true] at hc
    obtain ⟨⟨fn, hfu, hname, hbody⟩, hcall⟩ := hG f con hf
    have hargs : VsRel σ.hp ν (as.toList.map (ev σ.tm)) (as.map a.eval).toList := by
      rw [Array.toList_map]; exact vs_of_map he as.toList
    have hc2 := hcall C.k x b hfn A.base A.G A.w0 w σ.hp ν _ (as.map a.eval) nm hH.mem hargs hx hc.1.2 hc.2.1
    have hrun : (execOp a.eval o).run C.P w = .ok (.enter f (as.map a.eval)) w := by
      unfold execOp
      simp only [ho, resolve, Act.eval, Deferred.ofValue, Sem.run_bind, Sem.run_pure, Result.andThen_ok, invoke, callFunc, run_program, hfu]
      simp [hname, hbody]
    unfold Oper.wp
    rw [hrun]
    simp only [Oper.upon]
    refine hc2.mono ?_
    rintro e' w' ⟨u, ν', rfl, hv, hm, hext⟩
    exact ⟨ν', hH.put hv hm hext hd⟩
  | op cs v hp ho hc =>
    obtain ⟨u, w', ν', hdid, hv, hm, hext⟩ := opA_sound ho hc he hH.mem
    unfold Oper.wp
    rcases hdid with hrun | ⟨hrun, rfl⟩
    · rw [hrun]
      exact ⟨ν', hH.put hv hm hext hd⟩
    · rw [hrun]
      exact ⟨ν', hH.put hv hm hext hd⟩
theorem step_sound {ops : List Oper} {i : Nat} {σ' : St} {Q : Exit → Act → World → Prop} (h : Step C av ops i σ σ') (hH : Holds A σ a w) (hG : ∀ f con, C.G f = some con → CtrOK C.P f con) (hN : C.N = A.N) :
    wpOp C.P ops.toArray Q i (fun a' w' => Holds A σ' a' w') a w := by
  obtain ⟨ν, hH⟩ := hH
  unfold wpOp
  have hbool : ∀ d s, σ.tm d = .a false [.bool s] → a.tmps[d]? = some (.bool s.b) := by
    intro d s hs
    have := hH.tm d
    rw [hs] at this
    have hb := this.bool
    rw [Array.getD_eq_getD_getElem?] at hb
    cases hq : a.tmps[d]? with
    | none => rw [hq] at hb; simp [undef] at hb
    | some q => rw [hq] at hb; simp at hb; rw [hb]
  cases h with
  | go o ho hg v hp hw hd =>
    have ho' : ops.toArray[i]? = some o := by simpa using ho
    rw [ho']
    simp only []
    have hwant : Region.wanted o (yielded ops.toArray a.tmps) = true := by
      unfold Region.wanted
      rcases hg with hg | ⟨g, want, d, s, hg, hdd, hs, hb⟩
      · rw [hg]
      · rw [hg]
        have : (ops.toArray[g]?).bind (·.dst) = some d := by simpa using hdd
        have hy : yielded ops.toArray a.tmps g = some s.b := by
          unfold yielded
          rw [this, Option.bind_some, hbool d s hs]
        simp only []
        rw [hy, hb]
        simp
    rw [if_pos hwant]
    exact .inl (ways_sound hw hH hG (fun d e => by rw [← hN]; exact hd d e))
  | skip o ho g want d hg hdd hs hd =>
    have ho' : ops.toArray[i]? = some o := by simpa using ho
    rw [ho']
    simp only []
    have hwant : Region.wanted o (yielded ops.toArray a.tmps) = false := by
      unfold Region.wanted
      rw [hg]
      have hdd' : (ops.toArray[g]?).bind (·.dst) = some d := by simpa using hdd
      rcases hs with ⟨s, hs, hb⟩ | ⟨xs, hs⟩
      · have hy : yielded ops.toArray a.tmps g = some s.b := by
          unfold yielded
          rw [hdd', Option.bind_some, hbool d s hs]
        simp only []
        rw [hy]
        simp [hb]
      · have := hH.tm d
        rw [hs] at this
        obtain ⟨vs, hvs, _⟩ := this
        rw [Array.getD_eq_getD_getElem?] at hvs
        cases hq : a.tmps[d]? with
        | none =>
          have hy : yielded ops.toArray a.tmps g = none := by
            unfold yielded
            rw [hdd', Option.bind_some, hq]
          simp only []
          rw [hy]
          simp
        | some q =>
          rw [hq] at hvs
          simp at hvs
          subst hvs
          have hy : yielded ops.toArray a.tmps g = none := by
            unfold yielded
            rw [hdd', Option.bind_some, hq]
          simp only []
          rw [hy]
          simp
    rw [if_neg (by rw [hwant]; simp)]
    exact ⟨ν, hH.put (undef_rel _ _) hH.mem (.refl _ _) (fun d e => by rw [← hN]; exact hd d e)⟩
theorem steps_sound {av : Nat → Av} {ops : List Oper} {σ' : St} {Q : Exit → Act → World → Prop} (hG : ∀ f con, C.G f = some con → CtrOK C.P f con) (hN : C.N = A.N) (hQ : ∀ a w, Holds A σ' a w → Q .normal a w) :
    ∀ {l : List Nat} {σ : St} {a : Act} {w : World}, Steps' C av ops l σ σ' → Holds A σ a w → wpOps C.P ops.toArray Q l a w
  | [], σ, a, w, h, hH => by
    cases h
    exact hQ a w hH
  | i :: l, σ, a, w, h, hH => by
    cases h with
    | cons h1 h2 =>
      rw [wpOps_cons]
      exact wpOp_mono (fun a' w' h' => steps_sound hG hN hQ h2 h') (step_sound h1 hH hG hN)
theorem holds_nx {n : Nat} (h : Holds A σ a w) : Holds A ⟨σ.tm, σ.hp, n⟩ a w := by
  obtain ⟨ν, h⟩ := h
  exact ⟨ν, h.tm, h.mem, h.ext, h.defers, h.size⟩
end
end Go.Sx
/- Code: what the symbolic walk tells is what the machine does. -/
set_option linter.unusedVariables false
set_option linter.unusedSimpArgs false
namespace Go.Sx
theorem wp_loop_k {P : Program} {Q : Exit → Act → World → Prop} {a : Act} {w : World} {c : Code} (I : Nat → Act → World → Prop) (n : Nat) (h₀ : I n a w)
    (round : ∀ k a w, I k a w → c.wp P (Exit.then (fun a' w' => ∃ m, m < k ∧ I m a' w') Q) a w) : (Code.loop c).wp P Q a w := by
  intro b k cs
  have key : ∀ n a w, I n a w → ∃ e a' w', Q e a' w' ∧ Arrives P (lone (b.at a (.code c :: .inLoop c :: k)) cs w) b k cs e a' w' := by
    intro n
    induction n using Nat.strongRecOn with
    | _ n ih =>
      intro a w hI
      obtain ⟨e, a₁, w₁, hq, harr⟩ := round n a w hI b (.inLoop c :: k) cs
      cases e with
      | normal =>
        obtain ⟨m, hlt, hI₁⟩ := hq
        obtain ⟨e₂, a₂, w₂, hq₂, harr₂⟩ := ih m hlt a₁ w₁ hI₁
        exact ⟨e₂, a₂, w₂, hq₂, .of_steps (Steps.trans harr (.one step_inLoop)) harr₂⟩
      | exit id => exact ⟨_, a₁, w₁, hq, .pass (x := .inLoop c) rfl (fun _ _ => .inl (by simp)) harr⟩
      | goto l => exact ⟨_, a₁, w₁, hq, .pass (x := .inLoop c) rfl (fun _ _ => .inl (by simp)) harr⟩
      | ret => exact ⟨_, a₁, w₁, hq, .pass (x := .inLoop c) rfl (fun _ _ => .inl (by simp)) harr⟩
      | panic ch => exact ⟨_, a₁, w₁, hq, .pass (x := .inLoop c) rfl (fun _ _ => .inl (by simp)) harr⟩
      | outgrown => exact ⟨_, a₁, w₁, hq, .pass (x := .inLoop c) rfl (fun _ _ => .inl (by simp)) harr⟩
  obtain ⟨e, a', w', hq, harr⟩ := key n a w h₀
  exact ⟨e, a', w', hq, .of_steps (.one step_loop) harr⟩
/-- What a function's walk is made of: all but the rounds. -/
structure Fix (R : Type) where
  P : Program
  N : Nat
  G : FuncId → Option Con
  jn : Nat → Bool
  J : Nat → Nat → St → Option R
section
variable {R : Type}
def Fix.C (F : Fix R) (k : Nat) : Ctx := ⟨F.P, F.N, F.G, k⟩
def Fix.L (F : Fix R) (k : Nat) : Lam R := ⟨F.jn, F.J k⟩
abbrev KK (R : Type) := Nat → Exit → St → Option R
def thenKK (n : Nat → St → Option R) (K : KK R) : KK R := fun k => thenK (n k) (K k)
def inBlkK (id : Nat) (K : KK R) : KK R := fun k => inBlk id (K k)
def denKK (F : Fix R) (c : Code) (K : KK R) : Nat → St → Option R := fun k σ => den (F.C k) (F.L k) c (K k) σ
/-- The places of the labels, and what is walked from there. -/
def sites (F : Fix R) : Code → KK R → List (Nat × (Nat → St → Option R))
  | .seq x y, K => match ckey y with
    | some j => cnd (F.jn j) ((j, denKK F y K) :: (sites F x (thenKK (fun k => F.J k j) K) ++ sites F y K)) (sites F x (thenKK (denKK F y K) K) ++ sites F y K)
    | none => sites F x (thenKK (denKK F y K) K) ++ sites F y K
  | .cond _ x y, K => sites F x K ++ sites F y K
  | .block id c, K => sites F c (inBlkK id K)
  | .loop c, K => match ckey c with
    | some j => (j, denKK F c (thenKK (fun k => F.J k j) K)) :: sites F c (thenKK (fun k => F.J k j) K)
    | none => []
  | _, _ => []
/-- From a label on the walk goes as the label tells. -/
def SiteOK (F : Fix R) (A : Cx) (p : Nat × (Nat → St → Option R)) : Prop :=
  (∀ σ, F.J 0 p.1 σ = none) ∧ ∀ k σ r, F.J (k + 1) p.1 σ = some r → ∃ σ2, (∀ a w, Holds A σ a w → Holds A σ2 a w) ∧ p.2 k σ2 = some r
/-- The order of a region that draws is open. -/
def DrawOK (F : Fix R) (A : Cx) : Prop := ∀ (k : Nat) (id : Nat) (ops : Array Oper) (σ : St) (K : St → Option R) (r : R) (a : Act) (w : World) (Q : Exit → Act → World → Prop),
  regK (F.C k) ops true σ K = some r → Holds A σ a w → (∀ σ' a w, K σ' = some r → Holds A σ' a w → Q .normal a w) → (Code.region id ops true).wp F.P Q a w
theorem range_ops (n : Nat) : List.range n = List.range n := rfl
theorem reg_sound {F : Fix R} {A : Cx} (hG : ∀ f con, F.G f = some con → CtrOK F.P f con) (hN : F.N = A.N) {k id : Nat} {ops : Array Oper} {σ : St} {K : St → Option R} {r : R} {a : Act} {w : World} {Q : Exit → Act → World → Prop}
    (h : regK (F.C k) ops false σ K = some r) (hH : Holds A σ a w) (hQ : ∀ σ' a w, K σ' = some r → Holds A σ' a w → Q .normal a w) : (Code.region id ops false).wp F.P Q a w := by
  simp only [regK] at h
  obtain ⟨σ', h1, h2⟩ := runK_inv h (KnOK.nil σ)
  refine wp_region ?_
  have := steps_sound (A := A) (C := F.C k) (Q := Q) (ops := ops.toList) (σ' := σ') hG hN (fun a w hh => hQ _ a w h2 (holds_nx hh)) h1 hH
  simpa [Fix.C] using this
theorem den_sound {F : Fix R} {A : Cx} (hG : ∀ f con, F.G f = some con → CtrOK F.P f con) (hN : F.N = A.N) (hD : DrawOK F A) {r : R} :
    ∀ (c : Code) (K : KK R) (Q : Exit → Act → World → Prop) (n : Nat), (∀ p ∈ sites F c K, SiteOK F A p) →
      (∀ k, k ≤ n → ∀ e σ a w, K k e σ = some r → Holds A σ a w → Q e a w) →
      ∀ k, k ≤ n → ∀ σ a w, denKK F c K k σ = some r → Holds A σ a w → c.wp F.P Q a w := by
  intro c
  induction c with
  | skip =>
    intro K Q n _ hQ k hk σ a w h hH
    exact wp_skip (hQ k hk _ _ _ _ h hH)
  | region id ops draw =>
    intro K Q n _ hQ k hk σ a w h hH
    cases draw with
    | false => exact reg_sound hG hN h hH (fun σ' a w h' hH' => hQ k hk _ _ _ _ h' hH')
    | true => exact hD k id ops σ _ r a w Q h hH (fun σ' a w h' hH' => hQ k hk _ _ _ _ h' hH')
  | seq x y ihx ihy =>
    intro K Q n hs hQ k hk σ a w h hH
    have plain : (∀ p ∈ sites F x (thenKK (denKK F y K) K) ++ sites F y K, SiteOK F A p) → denKK F x (thenKK (denKK F y K) K) k σ = some r → (Code.seq x y).wp F.P Q a w := by
      intro hs h
      refine wp_seq (ihx (thenKK (denKK F y K) K) _ n (fun p hp => hs p (List.mem_append_left _ hp)) ?_ k hk σ a w h hH)
      intro k' hk' e σ' a' w' h' hH'
      cases e with
      | normal => exact ihy K Q n (fun p hp => hs p (List.mem_append_right _ hp)) hQ k' hk' σ' a' w' h' hH'
      | _ => exact hQ k' hk' _ _ _ _ h' hH'
    unfold denKK at h
    simp only [den] at h
    simp only [sites] at hs
    split at h
    · rename_i j hj
      rw [hj] at hs
      simp only [] at hs
      cases hjn : F.jn j with
      | true =>
        rw [hjn] at hs
        simp only [Fix.L, hjn, cnd_true] at h hs
        have hsite := hs (j, denKK F y K) List.mem_cons_self
        refine wp_seq (ihx (thenKK (fun k => F.J k j) K) _ n (fun p hp => hs p (List.mem_cons_of_mem _ (List.mem_append_left _ hp))) ?_ k hk σ a w h hH)
        intro k' hk' e σ' a' w' h' hH'
        cases e with
        | normal =>
          cases k' with
          | zero =>
            have h0 := hsite.1 σ'
            have h1 : F.J 0 j σ' = some r := h'
            simp only [] at h0
            rw [h0] at h1
            cases h1
          | succ m =>
            obtain ⟨σ2, hh, hd⟩ := hsite.2 m σ' r h'
            exact ihy K Q n (fun p hp => hs p (List.mem_cons_of_mem _ (List.mem_append_right _ hp))) hQ m (by omega) σ2 a' w' hd (hh a' w' hH')
        | _ => exact hQ k' hk' _ _ _ _ h' hH'
      | false =>
        rw [hjn] at hs
        simp only [Fix.L, hjn, cnd_false] at h hs
        exact plain hs h
    · rename_i hj
      rw [hj] at hs
      exact plain hs h
  | cond c x y ihx ihy =>
    intro K Q n hs hQ k hk σ a w h hH
    unfold denKK at h
    simp only [den] at h
    simp only [sites] at hs
    split at h
    · rename_i s hc
      obtain ⟨ν, hH'⟩ := hH
      have hv := ev_rel (a := a) hH'.tm c
      rw [hc] at hv
      refine wp_cond hv.bool ?_
      rw [cond_b] at h
      split at h
      · rename_i hb
        rw [if_pos hb]
        exact ihx K Q n (fun p hp => hs p (List.mem_append_left _ hp)) hQ k hk σ a w h ⟨ν, hH'⟩
      · rename_i hb
        rw [if_neg hb]
        exact ihy K Q n (fun p hp => hs p (List.mem_append_right _ hp)) hQ k hk σ a w h ⟨ν, hH'⟩
    · cases h
  | block id c ih =>
    intro K Q n hs hQ k hk σ a w h hH
    refine wp_block (ih (inBlkK id K) _ n hs ?_ k hk σ a w h hH)
    intro k' hk' e σ' a' w' h' hH'
    cases e with
    | exit i =>
      have h2 : cnd (Nat.beq i id) (K k' .normal σ') (K k' (.exit i) σ') = some r := h'
      by_cases hi : i = id
      · subst hi
        rw [beq_self', cnd_true] at h2
        simp only [Exit.inBlock, if_true]
        exact hQ k' hk' _ _ _ _ h2 hH'
      · rw [beq_ne hi, cnd_false] at h2
        simp only [Exit.inBlock, if_neg hi]
        exact hQ k' hk' _ _ _ _ h2 hH'
    | _ => exact hQ k' hk' _ _ _ _ h' hH'
  | loop c ih =>
    intro K Q n hs hQ k hk σ a w h hH
    unfold denKK at h
    simp only [den] at h
    simp only [sites] at hs
    split at h
    · rename_i j hj
      rw [hj] at hs
      simp only [] at hs
      have hsite := hs _ List.mem_cons_self
      refine wp_loop_k (fun m a w => m ≤ n ∧ ∃ σ, Holds A σ a w ∧ F.J m j σ = some r) k ⟨hk, σ, hH, h⟩ ?_
      rintro m a w ⟨hm, σ, hH, h⟩
      cases m with
      | zero =>
        have h0 := hsite.1 σ
        simp only [] at h0
        rw [h0] at h
        cases h
      | succ m =>
        obtain ⟨σ2, hh, hd⟩ := hsite.2 m σ r h
        refine ih (thenKK (fun k => F.J k j) K) _ m (fun p hp => hs p (List.mem_cons_of_mem _ hp)) ?_ m (Nat.le_refl _) σ2 a w hd (hh a w hH)
        intro k' hk' e σ' a' w' h' hH'
        cases e with
        | normal => exact ⟨k', by omega, by omega, σ', hH', h'⟩
        | _ => exact hQ k' (by omega) _ _ _ _ h' hH'
    · cases h
  | exit id =>
    intro K Q n _ hQ k hk σ a w h hH
    exact wp_exit (hQ k hk _ _ _ _ h hH)
  | ret =>
    intro K Q n _ hQ k hk σ a w h hH
    exact wp_ret (hQ k hk _ _ _ _ h hH)
  | _ =>
    intro K Q n _ hQ k hk σ a w h hH
    simp [denKK, den] at h
end
end Go.Sx
/- A function's begin and end: from its walk to its contract. -/
set_option linter.unusedVariables false
set_option linter.unusedSimpArgs false
namespace Go.Sx
section
variable {P : Program} {base : Nat} {G : Nat → Prop} {B : Nat → Prop} {w0 w : World} {hp : Hp} {ν : Nat → Value}
def boxE : Ent → Prop
  | .box _ _ => True
  | _ => False
theorem isBox_box {e : Ent} (h : isBox e = true) : wrE e := by cases e <;> simp_all [isBox, wrE]
theorem boxE.wr {e : Ent} (h : boxE e) : wrE e := by cases e <;> simp_all [boxE, wrE]
theorem wrE.lv {e : Ent} (h : wrE e) : lvE e := by cases e <;> simp_all [wrE, lvE]
/-- A new name for a block that none of the old ones has. -/
theorem Mem.add (h : Mem base G w0 w hp ν) {nm : Nat} (hn : hp nm = .free) {e : Ent} {v : Value} (he : EntRel base (upd hp nm e) (upd ν nm v) w e v) (hfree : e ≠ .free)
    (hsep : ∀ m, lvE (hp m) → (wrE e ∨ (lvE e ∧ wrE (hp m))) → ∀ g, blk v = some g → blk (ν m) ≠ some g) (hmine : wrE e → ∀ g, blk v = some g → base ≤ g ∨ G g) (hnst : ∃ B, NestOK base G w (upd hp nm e) (upd ν nm v) B) :
    Mem base G w0 w (upd hp nm e) (upd ν nm v) := by
  have hext := Ext.new (ν := ν) hn e v
  refine ⟨fun n => ?_, fun n m hne hwn hlm g hg => ?_, fun n hwn g hg => ?_, h.fr, hnst⟩
  · by_cases hnm : n = nm
    · subst hnm; rw [upd_same, upd_same]; exact he
    · rw [upd_other _ _ hnm, upd_other _ _ hnm]; exact (h.ent n).mono hext
  · by_cases hnn : n = nm
    · subst hnn
      rw [upd_same] at hg
      have hm : m ≠ n := fun e => hne e.symm
      rw [upd_other _ _ hm] at hlm ⊢
      rw [upd_same] at hwn
      exact hsep m hlm (.inl hwn) g hg
    · rw [upd_other _ _ hnn] at hwn hg
      by_cases hmm : m = nm
      · subst hmm
        rw [upd_same] at hlm ⊢
        intro hc
        exact hsep n hwn.lv (.inr ⟨hlm, hwn⟩) g hc hg
      · rw [upd_other _ _ hmm] at hlm ⊢
        exact h.sep n m hne hwn hlm g hg
  · by_cases hnn : n = nm
    · subst hnn
      rw [upd_same] at hg hwn
      exact hmine hwn g hg
    · rw [upd_other _ _ hnn] at hwn hg
      exact h.mine n hwn g hg
/-- A name is not used any more. -/
theorem Mem.kill (h : Mem base G w0 w hp ν) (q : Nat) : Mem base G w0 w (upd hp q .dead) ν := by
  have hx : ∀ n, hp n ≠ .free → (upd hp q .dead) n ≠ .free := fun n hn => by
    by_cases hq : n = q
    · subst hq; rw [upd_same]; simp
    · rw [upd_other _ _ hq]; exact hn
  have hext : Ext hp ν (upd hp q .dead) ν := ⟨fun n hn => ⟨hx n hn, rfl⟩⟩
  refine ⟨fun n => ?_, fun n m hne hwn hlm g hg => ?_, fun n hwn g hg => ?_, h.fr, h.nest.imp fun B hB => hB.turn (by simp) trivial (fun q => q.elim)⟩
  · by_cases hq : n = q
    · subst hq; rw [upd_same]; trivial
    · rw [upd_other _ _ hq]; exact (h.ent n).mono hext
  · have h1 : n ≠ q := fun e => by subst e; rw [upd_same] at hwn; exact hwn
    have h2 : m ≠ q := fun e => by subst e; rw [upd_same] at hlm; exact hlm
    rw [upd_other _ _ h1] at hwn
    rw [upd_other _ _ h2] at hlm
    exact h.sep n m hne hwn hlm g hg
  · have h1 : n ≠ q := fun e => by subst e; rw [upd_same] at hwn; exact hwn
    rw [upd_other _ _ h1] at hwn
    exact h.mine n hwn g hg
theorem Ext.kill (hp : Hp) (ν : Nat → Value) (q : Nat) : Ext hp ν (upd hp q .dead) ν := ⟨fun n hn => ⟨by
    by_cases hq : n = q
    · subst hq; rw [upd_same]; simp
    · rw [upd_other _ _ hq]; exact hn, rfl⟩⟩
/-- A new name, with what it says of slices within elements. -/
theorem NestOK.addG {B : Nat → Prop} (hB : NestOK base G w hp ν B) {nm : Nat} (hn : hp nm = .free) {e : Ent} {v : Value} (hrel : NestRel base G w B (upd hp nm e) (upd ν nm v) nm e) (hwr : wrE e → ∀ g, blk v = some g → ¬ B g) : NestOK base G w (upd hp nm e) (upd ν nm v) B := by
  have hext := Ext.new (ν := ν) hn e v
  refine ⟨fun n => ?_, fun n hw g hg => ?_, hB.lt⟩
  · by_cases hnm : n = nm
    · subst hnm; rw [upd_same]; exact hrel
    · rw [upd_other _ _ hnm]
      exact (hB.rel n).frame (upd_other _ _ hnm) (fun q => hext.keep _ q) (fun _ _ _ => rfl) (fun b hb => ⟨hb, rfl⟩) (fun _ _ q => q)
  · by_cases hnm : n = nm
    · subst hnm; rw [upd_same] at hw hg; exact hwr hw g hg
    · rw [upd_other _ _ hnm] at hw hg; exact hB.sep n hw g hg
theorem upd_swap {α : Type} (f : Nat → α) {n m : Nat} (x y : α) (h : n ≠ m) : upd (upd f n x) m y = upd (upd f m y) n x := by
  funext k
  by_cases hk : k = n
  · subst hk; rw [upd_same, upd_other _ _ h, upd_same]
  · by_cases hk2 : k = m
    · subst hk2; rw [upd_same, upd_other _ _ hk, upd_same]
    · rw [upd_other _ _ hk2, upd_other _ _ hk, upd_other _ _ hk, upd_other _ _ hk2]
/-- A nested row, read. -/
theorem nest_read {B : Nat → Prop} (hB : NestOK base G w hp ν B) (hm : Mem base G w0 w hp ν) {n : Nat} {t : NT} {x : List t.T} {e : TypeId} (h : hp n = .nro t x e ∨ hp n = .nrow t x e) :
    ∃ A c, ∃ cs : Array Value, ν n = .slice A x.length c ∧ x.length ≤ c ∧ x.length ≤ maxLen ∧ (x ≠ [] → ∃ a, A = some a ∧ ∀ (j : Nat) u, cs[j]? = some u → w.cell? (a.add j) = some u) ∧ NFlat w B t x cs.toList := by
  have hent := hm.ent n
  have hrel := hB.rel n
  rcases h with h | h
  · rw [h] at hent hrel
    obtain ⟨A, c, fl, h1, h2, h3, _⟩ := hent
    obtain ⟨_, A', c', cs, g1, _, g3, g4⟩ := hrel
    rw [h1] at g1
    simp only [Value.slice.injEq, true_and] at g1
    obtain ⟨rfl, rfl⟩ := g1
    exact ⟨A, c, cs, h1, h2, h3, g3, g4⟩
  · rw [h] at hrel
    obtain ⟨fl, h1, h2⟩ := hrel
    have h2' : NFlat w B t x fl.toArray.toList := h2.mono (fun b hb => hb.1)
    rcases h1.2 with ⟨g1, g2⟩ | ⟨g, cap, cur, g1, _, _, g2, g3, _⟩
    · exact ⟨none, 0, fl.toArray, by rw [g1, g2], by omega, by omega, fun hl => absurd (List.length_eq_zero_iff.1 g2) hl, h2'⟩
    · refine ⟨_, cap, fl.toArray, g1, g2, by omega, fun _ => ⟨_, rfl, fun j u hu => ?_⟩, h2'⟩
      exact h1.cells (g := g) (by rw [g1]; rfl) j u (by simpa using hu)
/-! ### the begin -/
theorem memN_iff {n : Nat} {l : List Nat} : memN n l = true ↔ n ∈ l := by
  unfold memN
  rw [List.any_eq_true]
  constructor
  · rintro ⟨x, hx, hb⟩
    have := Nat.eq_of_beq_eq_true hb
    subst this
    exact hx
  · intro h
    exact ⟨n, h, Nat.beq_refl n⟩
/-- The boxes that a call is handed. -/
def G0 (ν : Nat → Value) (ps : List Nat) : Nat → Prop := fun g => ∃ p, p ∈ ps ∧ blk (ν p) = some g
structure Beg (base : Nat) (G : Nat → Prop) (B : Nat → Prop) (w : World) (hp : Hp) (ν : Nat → Value) (G' : Nat → Prop) (H : List Nat) (nm : Nat) (hpc : Hp) (νc : Nat → Value) (done : List Nat) : Prop where
  mem : Mem w.heap.size G' w w hpc νc
  free : ∀ n, nm ≤ n → hpc n = .free
  nb : NestOK base G w hp ν B
  nc : NestOK w.heap.size G' w hpc νc B
  link : ∀ i, lvE (hpc i) → (¬ wrE (hpc i) ∧ ∀ g, blk (νc i) = some g → B g) ∨ ∃ n, νc i = ν n ∧ lvE (hp n) ∧ (wrE (hpc i) → n ∈ done ∧ wrE (hp n)) ∧ (¬ wrE (hpc i) → n ∉ H)
  sub : ∀ p, p ∈ done → p ∈ H
theorem iCs_one (k : CK) (x : k.T) (nm : Nat) (hp : Nat → Ent) : iCs [k] x nm hp = (match iC nm hp k x with | (a, nm, hp) => ([a], nm, hp)) := rfl
theorem iCs_cons (k k' : CK) (r : List CK) (x : CKs (k :: k' :: r)) (nm : Nat) (hp : Nat → Ent) : iCs (k :: k' :: r) x nm hp = (match iC nm hp k x.1 with
    | (a, nm, hp) => match iCs (k' :: r) x.2 nm hp with
      | (b, nm, hp) => (a :: b, nm, hp)) := rfl
theorem iAs_one (k : AK) (x : k.T) (nm : Nat) (hp : Nat → Ent) : iAs [k] x nm hp = (match iA k x nm hp with | (a, nm, hp) => ([a], nm, hp)) := rfl
theorem iAs_cons (k k' : AK) (r : List AK) (x : AKs (k :: k' :: r)) (nm : Nat) (hp : Nat → Ent) : iAs (k :: k' :: r) x nm hp = (match iA k x.1 nm hp with
    | (a, nm, hp) => match iAs (k' :: r) x.2 nm hp with
      | (b, nm, hp) => (a :: b, nm, hp)) := rfl
theorem mCs_cons (hp : Nat → Ent) (k k' : CK) (r : List CK) (x : SC) (y : List SC) : mCs hp (k :: k' :: r) (x :: y) = ((match mC hp k x, mCs hp (k' :: r) y with
    | some a, some b => some (a, b)
    | _, _ => none) : Option (k.T × CKs (k' :: r))) := rfl
theorem mAs_cons (hp : Nat → Ent) (k k' : AK) (r : List AK) (x : SV) (y : List SV) : mAs hp (k :: k' :: r) (x :: y) = ((match mA hp k x, mAs hp (k' :: r) y with
    | some a, some b => some (a, b)
    | _, _ => none) : Option (k.T × AKs (k' :: r))) := rfl
theorem no_some {α : Type} {p : Prop} {x : α} (h : (none : Option α) = some x) : p := nomatch h
theorem mC_int {k : IntKind} {sa : SC} {x : Int} (h : mC hp (.int k) sa = some x) : sa = .int k x := by
  cases sa with
  | int k' n =>
    have h2 : (cnd (keq k k') (some n) none : Option Int) = some x := h
    clear h
    cases hk : keq k k' with
    | false => rw [hk] at h2; exact no_some h2
    | true =>
      rw [hk] at h2
      have := keq_eq hk
      subst this
      have h3 : some n = some x := h2
      injection h3 with h3
      subst h3
      rfl
  | _ => exact no_some (α := Int) h
theorem mC_bool {sa : SC} {x : Bool} (h : mC hp .bool sa = some x) : ∃ s, sa = .bool s ∧ x = s.b := by
  cases sa with
  | bool s =>
    have h : some s.b = some x := h
    injection h with h
    exact ⟨s, rfl, h.symm⟩
  | _ => exact no_some (α := Bool) h
theorem mC_str {sa : SC} {x : ByteArray} (h : mC hp .str sa = some x) : sa = .str x := by
  cases sa with
  | str s =>
    have h : some s = some x := h
    injection h with h
    subst h
    rfl
  | _ => exact no_some (α := ByteArray) h
theorem mC_sl {t : Ty} {sa : SC} {x : List t.T} (h : mC hp (.sl t) sa = some x) : readL none hp t sa = some x := by
  cases sa <;> exact h
theorem mC_nsl {t : NT} {sa : SC} {x : List t.T} (h : mC hp (.nsl t) sa = some x) : (sa = .nils ∧ x = []) ∨ ∃ n e, sa = .sl n ∧ (hp n = .nro t x e ∨ hp n = .nrow t x e) := by
  cases sa with
  | nils =>
    have h2 : some ([] : List t.T) = some x := h
    injection h2 with h2
    exact .inl ⟨rfl, h2.symm⟩
  | sl n =>
    right
    have h2 : (match hp n with
      | .nro t' l e => match t'.dec t with
        | some ⟨h⟩ => some (h ▸ l : List t.T)
        | none => none
      | .nrow t' l e => match t'.dec t with
        | some ⟨h⟩ => some (h ▸ l : List t.T)
        | none => none
      | _ => none) = some x := h
    clear h
    cases hr : hp n with
    | nro t' l e =>
      rw [hr] at h2
      have h3 : (match t'.dec t with
        | some ⟨h⟩ => some (h ▸ l : List t.T)
        | none => none) = some x := h2
      clear h2
      split at h3
      · rename_i heq _
        subst heq
        injection h3 with h3
        have h3 : l = x := h3
        subst h3
        exact ⟨n, e, rfl, .inl hr⟩
      · exact no_some h3
    | nrow t' l e =>
      rw [hr] at h2
      have h3 : (match t'.dec t with
        | some ⟨h⟩ => some (h ▸ l : List t.T)
        | none => none) = some x := h2
      clear h2
      split at h3
      · rename_i heq _
        subst heq
        injection h3 with h3
        have h3 : l = x := h3
        subst h3
        exact ⟨n, e, rfl, .inr hr⟩
      · exact no_some h3
    | _ => rw [hr] at h2; exact no_some (α := List t.T) h2
  | _ => exact no_some (α := List t.T) h
theorem mA_c {k : CK} {sa : SV} {x : k.T} (h : mA hp (.c k) sa = some x) : ∃ y, sa = .a false [y] ∧ mC hp k y = some x := by
  match sa with
  | .a false [y] => exact ⟨y, rfl, h⟩
  | .a false [] => exact no_some (α := k.T) h
  | .a false (_ :: _ :: _) => exact no_some (α := k.T) h
  | .a true _ => exact no_some (α := k.T) h
  | .any => exact no_some (α := k.T) h
  | .tup _ => exact no_some (α := k.T) h
theorem mA_agg {ks : List CK} {sa : SV} {x : CKs ks} (h : mA hp (.agg ks) sa = some x) : ∃ cs, sa = .a true cs ∧ mCs hp ks cs = some x := by
  match sa with
  | .a true cs => exact ⟨cs, rfl, h⟩
  | .a false _ => exact no_some (α := CKs ks) h
  | .any => exact no_some (α := CKs ks) h
  | .tup _ => exact no_some (α := CKs ks) h
theorem mA_ptr {ks : List CK} {t : TypeId} {sa : SV} {x : CKs ks} (h : mA hp (.ptr ks t) sa = some x) : ∃ n cs, sa = .a false [.ptr n 0] ∧ hp n = .box cs t ∧ mCs hp ks cs = some x := by
  match sa with
  | .a false [.ptr n 0] =>
    have h2 : (match hp n with
      | .box cs t' => cnd (Nat.beq t t') (mCs hp ks cs) none
      | _ => none) = some x := h
    clear h
    cases hb : hp n with
    | box cs t' =>
      rw [hb] at h2
      have h3 : cnd (Nat.beq t t') (mCs hp ks cs) none = some x := h2
      clear h2
      cases ht : Nat.beq t t' with
      | false => rw [ht] at h3; exact no_some (α := CKs ks) h3
      | true =>
        rw [ht] at h3
        have := Nat.eq_of_beq_eq_true ht
        subst this
        exact ⟨n, cs, rfl, hb, h3⟩
    | _ => rw [hb] at h2; exact no_some (α := CKs ks) h2
  | .a false [.ptr n (m + 1)] => exact no_some (α := CKs ks) h
  | .a false [] => exact no_some (α := CKs ks) h
  | .a false (x :: _ :: _) => cases x with
    | ptr n m => cases m <;> exact no_some (α := CKs ks) h
    | _ => exact no_some (α := CKs ks) h
  | .a true _ => exact no_some (α := CKs ks) h
  | .any => exact no_some (α := CKs ks) h
  | .tup _ => exact no_some (α := CKs ks) h
  | .a false [.any] | .a false [.bool _] | .a false [.int _ _] | .a false [.str _] | .a false [.nilp] | .a false [.sl _] | .a false [.nils] | .a false [.ep _ _ _ _] => exact no_some (α := CKs ks) h
/-- What is read, and where it lies. -/
theorem readL_ent {ty : Ty} {x : SC} {l : List ty.T} {v : Value} (h : readL none hp ty x = some l) (hx : CRel hp ν x v) (hm : Mem base G w0 w hp ν) (hB : NestOK base G w hp ν B) :
    Reads w ty l v ∧ (l ≠ [] → (∀ g, blk v = some g → B g) ∨ ∃ n, x = .sl n ∧ v = ν n ∧ lvE (hp n) ∧ ¬ boxE (hp n)) := by
  refine ⟨readL_rel h hx hm, fun hl => ?_⟩
  unfold readL at h
  split at h
  · simp only [Option.some.injEq] at h
    exact absurd h.symm hl
  · rename_i n
    obtain ⟨_, hv, _⟩ := hx
    refine .inr ⟨n, rfl, hv, ?_⟩
    split at h
    · rename_i t l' e' hen
      rw [hen]
      exact ⟨trivial, fun h => h⟩
    · rename_i t l' e' hen
      have h2 : Ent.ro t l' e' = .ro ty l e' := by
        split at h
        · rename_i heq _
          subst heq
          simp only [Option.some.injEq] at h
          subst h
          rfl
        · cases h
      rw [hen, h2]; exact ⟨hl, fun h => h⟩
    · rename_i t l' e' hen
      rw [hen]
      exact ⟨trivial, fun h => h⟩
    · cases h
  · rename_i n sz i off
    left
    split at h
    · rename_i nt l' e' hen
      cases hb : Nat.beq sz nt.size with
      | false => rw [hb] at h; simp at h
      | true =>
        rw [hb] at h
        simp only [cnd_true] at h
        obtain ⟨A, c, h1, h2, h3, h4⟩ := pj_in hen (Nat.eq_of_beq_eq_true hb) h hx hB
        obtain ⟨a, h5, h6, _⟩ := h4 hl
        intro g hg
        rw [h1, h5] at hg
        simp only [blk, Option.some.injEq] at hg
        subst hg
        exact h6
    · simp at h
  · cases h
theorem Beg.cell {G' : Nat → Prop} {H : List Nat} {nm : Nat} {hpc : Hp} {νc : Nat → Value} {done : List Nat} (hB : Beg base G B w hp ν G' H nm hpc νc done) (hm : Mem base G w0 w hp ν) {k : CK} {x : k.T} {sa : SC} {v : Value} (h : mC hp k sa = some x) (hv : CRel hp ν sa v) (hro : ∀ n, sa = .sl n → ¬ boxE (hp n) → n ∉ H)
    {sc : SC} {nm' : Nat} {hpc' : Hp} (hq : iC nm hpc k x = (sc, nm', hpc')) :
    ∃ νc', Beg base G B w hp ν G' H nm' hpc' νc' done ∧ CRel hpc' νc' sc v ∧ Ext hpc νc hpc' νc' ∧ nm ≤ nm' ∧ (∀ n, n < nm → hpc' n = hpc n) := by
  cases k with
  | int k =>
    have := mC_int h
    subst this
    have hq : (SC.int k x, nm, hpc) = (sc, nm', hpc') := hq
    simp only [Prod.mk.injEq] at hq
    obtain ⟨rfl, rfl, rfl⟩ := hq
    exact ⟨νc, hB, hv, .refl _ _, Nat.le_refl _, fun _ _ => rfl⟩
  | bool =>
    obtain ⟨s, rfl, hs⟩ := mC_bool h
    have hq : (SC.bool (.v x), nm, hpc) = (sc, nm', hpc') := hq
    simp only [Prod.mk.injEq] at hq
    obtain ⟨rfl, rfl, rfl⟩ := hq
    have hvv : v = .bool s.b := hv
    exact ⟨νc, hB, by rw [hvv, ← hs]; rfl, .refl _ _, Nat.le_refl _, fun _ _ => rfl⟩
  | str =>
    have := mC_str h
    subst this
    have hq : (SC.str x, nm, hpc) = (sc, nm', hpc') := hq
    simp only [Prod.mk.injEq] at hq
    obtain ⟨rfl, rfl, rfl⟩ := hq
    exact ⟨νc, hB, hv, .refl _ _, Nat.le_refl _, fun _ _ => rfl⟩
  | sl t =>
    have hq : (SC.sl nm, nm + 1, upd hpc nm (.ro t x 0)) = (sc, nm', hpc') := hq
    simp only [Prod.mk.injEq] at hq
    obtain ⟨rfl, rfl, rfl⟩ := hq
    obtain ⟨hr, hn⟩ := readL_ent (mC_sl h) hv hm hB.nb
    have hfr := hB.free nm (Nat.le_refl _)
    obtain ⟨A, c, hvv, h1, h2, h3⟩ := hr.out
    have hmem := hB.mem.share hfr (ty := t) (l := x) (e' := 0) (v := v) ⟨A, c, hvv, h1, h2, h3⟩ (fun hl m hwm g hg hc => by
      rcases hn hl with hbb | ⟨n, hsn, hvn, hln, hbn⟩
      · exact hB.nc.sep m hwm g hg (hbb g hc)
      · rcases hB.link m hwm.lv with ⟨h4, _⟩ | ⟨n', h4, h5, h6, h7⟩
        · exact h4 hwm
        · have hne : n' ≠ n := fun e => by subst e; exact hro n' hsn hbn (hB.sub n' (h6 hwm).1)
          rw [h4] at hg
          rw [hvn] at hc
          exact hm.sep n' n hne (h6 hwm).2 hln g hg hc)
    refine ⟨upd νc nm v, ⟨hmem.1, fun n hn' => ?_, hB.nb, hB.nc.add hfr trivial (fun q => q.elim), fun i hi => ?_, hB.sub⟩, ⟨by rw [upd_same]; simp, by rw [upd_same], A, _, c, hvv⟩, hmem.2, Nat.le_succ _, fun n hn' => upd_other _ _ (by omega)⟩
    · rw [upd_other _ _ (by omega)]
      exact hB.free n (by omega)
    · by_cases hin : i = nm
      · subst hin
        rw [upd_same] at hi ⊢
        rw [upd_same]
        rcases hn hi with hbb | ⟨n, hsn, hvn, hln, hbn⟩
        · exact .inl ⟨fun q => q, hbb⟩
        · exact .inr ⟨n, hvn, hln, fun h => h.elim, fun _ => hro n hsn hbn⟩
      · rw [upd_other _ _ hin] at hi ⊢
        rw [upd_other _ _ hin]
        exact hB.link i hi
  | nsl t =>
    have hq : (SC.sl nm, nm + 2, upd (upd hpc nm (.nro t x 0)) (nm + 1) .gh) = (sc, nm', hpc') := hq
    simp only [Prod.mk.injEq] at hq
    obtain ⟨rfl, rfl, rfl⟩ := hq
    have hfr := hB.free nm (Nat.le_refl _)
    have hfr1 := hB.free (nm + 1) (Nat.le_succ _)
    have key : ∃ A c, ∃ cs : Array Value, v = .slice A (List.length x) c ∧ List.length x ≤ c ∧ List.length x ≤ maxLen ∧ ((x : List t.T) ≠ [] → ∃ a, A = some a ∧ ∀ (j : Nat) u, cs[j]? = some u → w.cell? (a.add j) = some u) ∧ NFlat w B t x cs.toList ∧ ((x : List t.T) ≠ [] → ∃ n, sa = .sl n ∧ v = ν n ∧ lvE (hp n) ∧ ¬ boxE (hp n)) := by
      rcases mC_nsl h with ⟨rfl, rfl⟩ | ⟨n, e, rfl, hen⟩
      · exact ⟨none, 0, #[], hv, Nat.le_refl _, Nat.zero_le _, fun q => absurd rfl q, rfl, fun q => absurd rfl q⟩
      · obtain ⟨_, hvn, _⟩ := hv
        obtain ⟨A, c, cs, h1, h2, h3, h4, h5⟩ := nest_read hB.nb hm hen
        refine ⟨A, c, cs, hvn.trans h1, h2, h3, h4, h5, fun hl => ⟨n, rfl, hvn, ?_⟩⟩
        rcases hen with hen | hen
        · rw [hen]; exact ⟨hl, fun h => h⟩
        · rw [hen]; exact ⟨trivial, fun h => h⟩
    obtain ⟨A, c, cs, hvv, h1, h2, h3, h4, h5⟩ := key
    have hne1 : nm ≠ nm + 1 := by omega
    rw [upd_swap hpc (.nro t x 0) .gh hne1]
    have n1 := hB.nc.addG hfr1 (e := .gh) (v := .agg cs) trivial (fun q => q.elim)
    have m1 := hB.mem.add hfr1 (e := .gh) (v := .agg cs) trivial (by simp) (fun _ _ _ g hg => by cases hg) (fun q => q.elim) ⟨B, n1⟩
    have hfr' : (upd hpc (nm + 1) .gh) nm = .free := by rw [upd_other _ _ hne1]; exact hfr
    have n2 := n1.addG hfr' (e := .nro t x 0) (v := v) ⟨by rw [upd_other _ _ hne1.symm, upd_same]; simp, A, c, cs, by rw [upd_same]; exact hvv, by rw [upd_other _ _ hne1.symm, upd_same], h3, h4⟩ (fun q => q.elim)
    have m2 := m1.add hfr' (e := .nro t x 0) (v := v) ⟨A, c, cs.toList, hvv, h1, h2, h4.len, fun hl => by
      obtain ⟨a, g1, g2⟩ := h3 hl
      exact ⟨a, g1, fun j u hu => g2 j u (by simpa using hu)⟩⟩ (by simp) (fun m hlm hw g hg hc => by
      rcases hw with hw | ⟨hl, hwm⟩
      · exact hw
      · obtain ⟨n, hsn, hvn, hln, hbn⟩ := h5 hl
        have hm1 : m ≠ nm + 1 := fun e => by subst e; rw [upd_same] at hwm; exact hwm
        rw [upd_other _ _ hm1] at hwm hc
        rcases hB.link m hwm.lv with ⟨h4, _⟩ | ⟨n', h4, h5, h6, h7⟩
        · exact h4 hwm
        · have hne : n' ≠ n := fun e => by subst e; exact hro n' hsn hbn (hB.sub n' (h6 hwm).1)
          rw [h4] at hc
          rw [hvn] at hg
          exact hm.sep n' n hne (h6 hwm).2 hln g hc hg) (fun q => q.elim) ⟨B, n2⟩
    have hext := (Ext.new (ν := νc) hfr1 .gh (.agg cs)).trans (Ext.new hfr' (.nro t x 0) v)
    refine ⟨_, ⟨m2, fun n hn' => ?_, hB.nb, n2, fun i hi => ?_, hB.sub⟩, ⟨by rw [upd_same]; simp, by rw [upd_same], A, _, c, hvv⟩, hext, by omega, fun n hn' => ?_⟩
    · rw [upd_other _ _ (by omega), upd_other _ _ (by omega)]
      exact hB.free n (by omega)
    · by_cases hin : i = nm
      · subst hin
        rw [upd_same] at hi ⊢
        rw [upd_same]
        obtain ⟨n, hsn, hvn, hln, hbn⟩ := h5 hi
        exact .inr ⟨n, hvn, hln, fun h => h.elim, fun _ => hro n hsn hbn⟩
      · rw [upd_other _ _ hin] at hi ⊢
        rw [upd_other _ _ hin]
        by_cases hin1 : i = nm + 1
        · subst hin1; rw [upd_same] at hi; exact hi.elim
        · rw [upd_other _ _ hin1] at hi ⊢
          rw [upd_other _ _ hin1]
          exact hB.link i hi
    · rw [upd_other _ _ (by omega), upd_other _ _ (by omega)]
theorem slN_cons (x : SC) (r : List SC) : ∀ n, n ∈ slN r → n ∈ slN (x :: r) := by
  intro n hn
  cases x <;> first | exact hn | exact List.mem_cons_of_mem _ hn
theorem slN_head {x : SC} {n : Nat} (r : List SC) (h : x = .sl n) : n ∈ slN (x :: r) := by subst h; exact List.mem_cons_self
theorem Beg.cells {G' : Nat → Prop} {H : List Nat} {done : List Nat} (hm : Mem base G w0 w hp ν) : ∀ (ks : List CK) (x : CKs ks) (sas : List SC) (vs : List Value) (nm : Nat) (hpc : Hp) (νc : Nat → Value) (scs : List SC) (nm' : Nat) (hpc' : Hp), Beg base G B w hp ν G' H nm hpc νc done → mCs hp ks sas = some x → CsRel hp ν sas vs → (∀ n, n ∈ slN sas → ¬ boxE (hp n) → n ∉ H) → iCs ks x nm hpc = (scs, nm', hpc') →
    ∃ νc', Beg base G B w hp ν G' H nm' hpc' νc' done ∧ CsRel hpc' νc' scs vs ∧ Ext hpc νc hpc' νc' ∧ nm ≤ nm' ∧ (∀ n, n < nm → hpc' n = hpc n)
  | [], x, sas, vs, nm, hpc, νc, scs, nm', hpc', hB, h, hv, hro, hq => by
    have hq : (([] : List SC), nm, hpc) = (scs, nm', hpc') := hq
    simp only [Prod.mk.injEq] at hq
    obtain ⟨rfl, rfl, rfl⟩ := hq
    match sas, vs, hv with
    | [], [], _ => exact ⟨νc, hB, trivial, .refl _ _, Nat.le_refl _, fun _ _ => rfl⟩
    | _ :: _, _, _ => exact no_some (α := Unit) h
  | [k], x, sas, vs, nm, hpc, νc, scs, nm', hpc', hB, h, hv, hro, hq => by
    match sas, vs, hv with
    | [sa], [v], hv =>
      replace hq := (iCs_one k x nm hpc).symm.trans hq
      generalize hq1 : iC nm hpc k x = q at hq
      obtain ⟨a, b, c⟩ := q
      simp only [Prod.mk.injEq] at hq
      obtain ⟨rfl, rfl, rfl⟩ := hq
      obtain ⟨νc', h1, h2, h3⟩ := hB.cell hm (k := k) (x := x) h hv.1 (fun n he => hro n (slN_head [] he)) hq1
      exact ⟨νc', h1, ⟨h2, trivial⟩, h3⟩
    | [], _, _ => exact no_some (α := k.T) h
    | _ :: _ :: _, _, _ => exact no_some (α := k.T) h
    | [_], [], hv => exact hv.elim
    | [_], _ :: _ :: _, hv => exact hv.2.elim
  | k :: k' :: r, x, sas, vs, nm, hpc, νc, scs, nm', hpc', hB, h, hv, hro, hq => by
    match sas, vs, hv with
    | sa :: sar, v :: vr, hv =>
      rw [mCs_cons] at h
      split at h
      · rename_i a b ha hb
        have h : some (a, b) = some x := h
        injection h with h
        subst h
        replace hq : (match iC nm hpc k a with
          | (s, n, p) => match iCs (k' :: r) b n p with
            | (s', n', p') => (s :: s', n', p')) = (scs, nm', hpc') := hq
        generalize hq1 : iC nm hpc k a = q at hq
        obtain ⟨s1, n1, p1⟩ := q
        simp only [] at hq
        generalize hq2 : iCs (k' :: r) b n1 p1 = q at hq
        obtain ⟨s2, n2, p2⟩ := q
        simp only [Prod.mk.injEq] at hq
        obtain ⟨rfl, rfl, rfl⟩ := hq
        obtain ⟨νc1, h1, h2, h3, h4, h5⟩ := hB.cell hm (k := k) (x := a) ha hv.1 (fun n he => hro n (slN_head sar he)) hq1
        obtain ⟨νc2, g1, g2, g3, g4, g5⟩ := Beg.cells hm (k' :: r) b sar vr n1 p1 νc1 s2 n2 p2 h1 hb hv.2 (fun n hn => hro n (slN_cons sa sar n hn)) hq2
        exact ⟨νc2, g1, ⟨h2.mono g3, g2⟩, h3.trans g3, Nat.le_trans h4 g4, fun n hn => (g5 n (by omega)).trans (h5 n hn)⟩
      · cases h
    | [], _, _ => exact no_some (α := k.T × CKs (k' :: r)) h
    | _ :: _, [], hv => exact hv.elim
theorem mW_row {t : Ty} {e : TypeId} {sa : SC} {x : List t.T} (h : mW hp (.row t e) sa = some x) : ∃ n, sa = .sl n ∧ hp n = .row t x e := by
  cases sa with
  | sl n =>
    have h2 : (match hp n with
      | .row t' l e' => match t'.dec t with
        | some ⟨h⟩ => cnd (Nat.beq e e') (some (h ▸ l : List t.T)) none
        | none => none
      | _ => none) = some x := h
    clear h
    refine ⟨n, rfl, ?_⟩
    cases hr : hp n with
    | row t' l e' =>
      rw [hr] at h2
      have h3 : (match t'.dec t with
        | some ⟨h⟩ => cnd (Nat.beq e e') (some (h ▸ l : List t.T)) none
        | none => none) = some x := h2
      clear h2
      split at h3
      · rename_i heq _
        subst heq
        cases he : Nat.beq e e' with
        | false => rw [he] at h3; exact no_some (α := List t'.T) h3
        | true =>
          rw [he] at h3
          have := Nat.eq_of_beq_eq_true he
          subst this
          have h4 : some l = some x := h3
          injection h4 with h4
          subst h4
          rfl
      · exact no_some h3
    | _ => rw [hr] at h2; exact no_some (α := List t.T) h2
  | _ => exact no_some (α := List t.T) h
theorem mA_w {g : Bool} {ks : List WK} {sa : SV} {x : WKs ks} (h : mA hp (.w g ks) sa = some x) : ∃ cs, sa = .a g cs ∧ mWs hp ks cs = some x := by
  have key : ∀ g' cs, cnd (beqB g g') (mWs hp ks cs) none = some x → g = g' ∧ mWs hp ks cs = some x := fun g' cs h2 => by
    cases g <;> cases g' <;> first | exact ⟨rfl, h2⟩ | exact no_some (α := WKs ks) h2
  match sa with
  | .a false cs => obtain ⟨rfl, h2⟩ := key false cs h; exact ⟨cs, rfl, h2⟩
  | .a true cs => obtain ⟨rfl, h2⟩ := key true cs h; exact ⟨cs, rfl, h2⟩
  | .any => exact no_some (α := WKs ks) h
  | .tup _ => exact no_some (α := WKs ks) h
theorem iWs_one (k : WK) (x : k.T) (nm : Nat) (hp : Nat → Ent) : iWs [k] x nm hp = (match iW nm hp k x with | (a, nm, hp) => ([a], nm, hp)) := rfl
theorem mWs_cons (hp : Nat → Ent) (k k' : WK) (r : List WK) (x : SC) (y : List SC) : mWs hp (k :: k' :: r) (x :: y) = ((match mW hp k x, mWs hp (k' :: r) y with
    | some a, some b => some (a, b)
    | _, _ => none) : Option (k.T × WKs (k' :: r))) := rfl
theorem Beg.wcell {G' : Nat → Prop} {H : List Nat} {nm : Nat} {hpc : Hp} {νc : Nat → Value} {done : List Nat} (hB : Beg base G B w hp ν G' H nm hpc νc done) (hm : Mem base G w0 w hp ν) {k : WK} {x : k.T} {sa : SC} {v : Value} (h : mW hp k sa = some x) (hv : CRel hp ν sa v)
    (hro : ∀ n, n ∈ rdW [k] [sa] → n ∉ H) (hG : ∀ p, p ∈ rowsW [k] [sa] → p ∉ done ∧ p ∈ H ∧ ∀ g, blk (ν p) = some g → G' g) {sc : SC} {nm' : Nat} {hpc' : Hp} (hq : iW nm hpc k x = (sc, nm', hpc')) :
    ∃ νc', Beg base G B w hp ν G' H nm' hpc' νc' (rowsW [k] [sa] ++ done) ∧ CRel hpc' νc' sc v ∧ Ext hpc νc hpc' νc' ∧ nm ≤ nm' := by
  cases k with
  | c k =>
    have hr : rowsW [WK.c k] [sa] = [] := by cases sa <;> rfl
    rw [hr]
    obtain ⟨νc', h1, h2, h3, h4, _⟩ := hB.cell hm (k := k) (x := x) h hv (fun n he _ => hro n (by subst he; exact List.mem_cons_self)) hq
    exact ⟨νc', h1, h2, h3, h4⟩
  | row t e =>
    obtain ⟨n, rfl, hrow⟩ := mW_row h
    have hq : (SC.sl nm, nm + 1, upd hpc nm (.row t x e)) = (sc, nm', hpc') := hq
    simp only [Prod.mk.injEq] at hq
    obtain ⟨rfl, rfl, rfl⟩ := hq
    have hr : rowsW [WK.row t e] [SC.sl n] = [n] := rfl
    have hGn := hG n (by rw [hr]; exact List.mem_cons_self)
    obtain ⟨hnf, hvv, hsl⟩ := hv
    have hfr := hB.free nm (Nat.le_refl _)
    have hent := hm.ent n
    rw [hrow] at hent
    have hent : w.ownsRow 0 e t.size (ν n) x.length (t.flat x) := hent
    have hn2 := hB.nc.add hfr (e := .row t x e) (v := v) trivial (fun _ g hg hb => hB.nb.sep n (by rw [hrow]; trivial) g (by rw [← hvv]; exact hg) hb)
    have hadd := hB.mem.add hfr (e := .row t x e) (v := v) (by rw [hvv]; exact hent) (by simp) (fun m hlm _ g hg hc => by
      rw [hvv] at hg
      rcases hB.link m hlm with ⟨_, hbb⟩ | ⟨n', e1, e2, e3, e4⟩
      · exact hB.nb.sep n (by rw [hrow]; trivial) g hg (hbb g hc)
      rw [e1] at hc
      have hne : n ≠ n' := fun e => by
        subst e
        by_cases hb : wrE (hpc m)
        · exact hGn.1 (e3 hb).1
        · exact e4 hb hGn.2.1
      exact hm.sep n n' hne (by rw [hrow]; trivial) e2 g hg hc) (fun _ g hg => .inr (hGn.2.2 g (by rw [← hvv]; exact hg))) ⟨B, hn2⟩
    have hext := Ext.new (ν := νc) hfr (.row t x e) v
    refine ⟨upd νc nm v, ⟨hadd, fun m hm' => ?_, hB.nb, hn2, fun i hi => ?_, fun p hp' => ?_⟩, ⟨by rw [upd_same]; simp, by rw [upd_same], hsl⟩, hext, Nat.le_succ _⟩
    · rw [upd_other _ _ (by omega)]
      exact hB.free m (by omega)
    · by_cases hin : i = nm
      · subst hin
        rw [upd_same, upd_same]
        exact .inr ⟨n, hvv, by rw [hrow]; trivial, fun _ => ⟨by rw [hr]; exact List.mem_cons_self, by rw [hrow]; trivial⟩, fun hh => absurd trivial hh⟩
      · rw [upd_other _ _ hin] at hi ⊢
        rw [upd_other _ _ hin]
        rcases hB.link i hi with q | ⟨n', e1, e2, e3, e4⟩
        · exact .inl q
        exact .inr ⟨n', e1, e2, fun hb => ⟨by rw [hr]; exact List.mem_cons_of_mem _ (e3 hb).1, (e3 hb).2⟩, e4⟩
    · rw [hr] at hp'
      rcases List.mem_append.1 hp' with hp' | hp'
      · rw [List.mem_singleton] at hp'; subst hp'; exact hGn.2.1
      · exact hB.sub p hp'
theorem rowsW_cons (k : WK) (r : List WK) (x : SC) (y : List SC) : rowsW (k :: r) (x :: y) = rowsW [k] [x] ++ rowsW r y := by
  cases k with
  | row t e => cases x <;> rfl
  | c k => rfl
theorem rdW_cons (k : WK) (r : List WK) (x : SC) (y : List SC) : rdW (k :: r) (x :: y) = rdW [k] [x] ++ rdW r y := by
  cases k with
  | c k => cases x <;> rfl
  | row t e => rfl
theorem nodup_app {l m : List Nat} (h : nodupN (l ++ m) = true) : nodupN m = true ∧ ∀ p, p ∈ l → p ∉ m := by
  induction l with
  | nil => exact ⟨h, fun p hp => by cases hp⟩
  | cons x l ih =>
    simp only [List.cons_append, nodupN, Bool.and_eq_true, Bool.not_eq_true'] at h
    obtain ⟨h1, h2⟩ := ih h.2
    refine ⟨h1, fun p hp hm => ?_⟩
    cases hp with
    | head =>
      have : memN x (l ++ m) = true := memN_iff.2 (List.mem_append_right _ hm)
      rw [this] at h
      cases h.1
    | tail _ hp => exact h2 p hp hm
theorem nodup_left {l m : List Nat} (h : nodupN (l ++ m) = true) : nodupN l = true := by
  induction l with
  | nil => rfl
  | cons x l ih =>
    simp only [List.cons_append, nodupN, Bool.and_eq_true, Bool.not_eq_true'] at h ⊢
    refine ⟨?_, ih h.2⟩
    cases hx : memN x l with
    | false => rfl
    | true =>
      have : memN x (l ++ m) = true := memN_iff.2 (List.mem_append_left _ (memN_iff.1 hx))
      rw [this] at h
      cases h.1
theorem Beg.wcells {G' : Nat → Prop} {H : List Nat} (hm : Mem base G w0 w hp ν) : ∀ (ks : List WK) (x : WKs ks) (sas : List SC) (vs : List Value) (nm : Nat) (hpc : Hp) (νc : Nat → Value) (done : List Nat) (scs : List SC) (nm' : Nat) (hpc' : Hp), Beg base G B w hp ν G' H nm hpc νc done → mWs hp ks sas = some x → CsRel hp ν sas vs →
    (∀ n, n ∈ rdW ks sas → n ∉ H) → nodupN (rowsW ks sas) = true → (∀ p, p ∈ rowsW ks sas → p ∉ done ∧ p ∈ H ∧ ∀ g, blk (ν p) = some g → G' g) → iWs ks x nm hpc = (scs, nm', hpc') →
    ∃ νc' done', Beg base G B w hp ν G' H nm' hpc' νc' done' ∧ CsRel hpc' νc' scs vs ∧ Ext hpc νc hpc' νc' ∧ nm ≤ nm' ∧ (∀ p, p ∈ done' → p ∈ rowsW ks sas ∨ p ∈ done)
  | [], x, sas, vs, nm, hpc, νc, done, scs, nm', hpc', hB, h, hv, hro, hnd, hG, hq => by
    have hq : (([] : List SC), nm, hpc) = (scs, nm', hpc') := hq
    simp only [Prod.mk.injEq] at hq
    obtain ⟨rfl, rfl, rfl⟩ := hq
    match sas, vs, hv with
    | [], [], _ => exact ⟨νc, done, hB, trivial, .refl _ _, Nat.le_refl _, fun _ h => .inr h⟩
    | _ :: _, _, _ => exact no_some (α := Unit) h
  | [k], x, sas, vs, nm, hpc, νc, done, scs, nm', hpc', hB, h, hv, hro, hnd, hG, hq => by
    match sas, vs, hv with
    | [sa], [v], hv =>
      replace hq := (iWs_one k x nm hpc).symm.trans hq
      generalize hq1 : iW nm hpc k x = q at hq
      obtain ⟨a, b, c⟩ := q
      simp only [Prod.mk.injEq] at hq
      obtain ⟨rfl, rfl, rfl⟩ := hq
      obtain ⟨νc', h1, h2, h3, h4⟩ := hB.wcell hm (k := k) (x := x) h hv.1 hro hG hq1
      exact ⟨νc', _, h1, ⟨h2, trivial⟩, h3, h4, fun p hp' => List.mem_append.1 hp'⟩
    | [], _, _ => exact no_some (α := k.T) h
    | _ :: _ :: _, _, _ => exact no_some (α := k.T) h
    | [_], [], hv => exact hv.elim
    | [_], _ :: _ :: _, hv => exact hv.2.elim
  | k :: k' :: r, x, sas, vs, nm, hpc, νc, done, scs, nm', hpc', hB, h, hv, hro, hnd, hG, hq => by
    match sas, vs, hv with
    | sa :: sar, v :: vr, hv =>
      rw [mWs_cons] at h
      split at h
      · rename_i a b ha hb
        have h : some (a, b) = some x := h
        injection h with h
        subst h
        rw [rowsW_cons] at hnd hG
        rw [rdW_cons] at hro
        obtain ⟨hnd1, hnd2⟩ := nodup_app hnd
        replace hq : (match iW nm hpc k a with
          | (s, n, p) => match iWs (k' :: r) b n p with
            | (s', n', p') => (s :: s', n', p')) = (scs, nm', hpc') := hq
        generalize hq1 : iW nm hpc k a = q at hq
        obtain ⟨s1, n1, p1⟩ := q
        simp only [] at hq
        generalize hq2 : iWs (k' :: r) b n1 p1 = q at hq
        obtain ⟨s2, n2, p2⟩ := q
        simp only [Prod.mk.injEq] at hq
        obtain ⟨rfl, rfl, rfl⟩ := hq
        obtain ⟨νc1, h1, h2, h3, h4⟩ := hB.wcell hm (k := k) (x := a) ha hv.1 (fun n hn => hro n (List.mem_append_left _ hn)) (fun p hp => hG p (List.mem_append_left _ hp)) hq1
        obtain ⟨νc2, done2, g1, g2, g3, g4, g5⟩ := Beg.wcells hm (k' :: r) b sar vr n1 p1 νc1 _ s2 n2 p2 h1 hb hv.2 (fun n hn => hro n (List.mem_append_right _ hn)) hnd1 (fun p hp => ⟨fun hin => by
          rcases List.mem_append.1 hin with hin | hin
          · exact hnd2 p hin hp
          · exact (hG p (List.mem_append_right _ hp)).1 hin, (hG p (List.mem_append_right _ hp)).2⟩) hq2
        refine ⟨νc2, done2, g1, ⟨h2.mono g3, g2⟩, h3.trans g3, Nat.le_trans h4 g4, fun p hp' => ?_⟩
        rw [rowsW_cons]
        rcases g5 p hp' with h6 | h6
        · exact .inl (List.mem_append_right _ h6)
        · rcases List.mem_append.1 h6 with h6 | h6
          · exact .inl (List.mem_append_left _ h6)
          · exact .inr h6
      · cases h
    | [], _, _ => exact no_some (α := k.T × WKs (k' :: r)) h
    | _ :: _, [], hv => exact hv.elim
theorem Beg.arg {G' : Nat → Prop} {H : List Nat} {nm : Nat} {hpc : Hp} {νc : Nat → Value} {done : List Nat} (hB : Beg base G B w hp ν G' H nm hpc νc done) (hm : Mem base G w0 w hp ν) {k : AK} {x : k.T} {sa : SV} {v : Value} (h : mA hp k sa = some x) (hv : VRel hp ν sa v)
    (hro : ∀ n, n ∈ rdsOf [k] [sa] → n ∉ H) (hbx : noP [k] = true ∨ ∀ p, p ∈ H → boxE (hp p)) (hnd : nodupN (ptrs [k] [sa]) = true) (hG : ∀ p, p ∈ ptrs [k] [sa] → p ∉ done ∧ p ∈ H ∧ ∀ g, blk (ν p) = some g → G' g) {sv : SV} {nm' : Nat} {hpc' : Hp} (hq : iA k x nm hpc = (sv, nm', hpc')) :
    ∃ νc' done', Beg base G B w hp ν G' H nm' hpc' νc' done' ∧ VRel hpc' νc' sv v ∧ Ext hpc νc hpc' νc' ∧ nm ≤ nm' ∧ (∀ p, p ∈ done' → p ∈ ptrs [k] [sa] ∨ p ∈ done) := by
  cases k with
  | c k =>
    obtain ⟨y, rfl, hy⟩ := mA_c h
    have hq : (match iC nm hpc k x with | (a, nm, hp) => (one a, nm, hp)) = (sv, nm', hpc') := hq
    generalize hq1 : iC nm hpc k x = q at hq
    obtain ⟨s1, n1, p1⟩ := q
    simp only [Prod.mk.injEq] at hq
    obtain ⟨rfl, rfl, rfl⟩ := hq
    obtain ⟨z, hz, hc⟩ := hv
    injection hz with hz _
    subst hz
    obtain ⟨νc', h1, h2, h3, h4, h5⟩ := hB.cell hm (k := k) (x := x) hy hc (fun n he _ => hro n (by subst he; exact List.mem_cons_self)) hq1
    exact ⟨νc', _, h1, ⟨_, rfl, h2⟩, h3, h4, fun _ h => .inr h⟩
  | agg ks =>
    obtain ⟨cs, rfl, hy⟩ := mA_agg h
    have hq : (match iCs ks x nm hpc with | (a, nm, hp) => (SV.a true a, nm, hp)) = (sv, nm', hpc') := hq
    generalize hq1 : iCs ks x nm hpc = q at hq
    obtain ⟨s1, n1, p1⟩ := q
    simp only [Prod.mk.injEq] at hq
    obtain ⟨rfl, rfl, rfl⟩ := hq
    obtain ⟨vs, rfl, hc⟩ := hv
    obtain ⟨νc', h1, h2, h3, h4, h5⟩ := Beg.cells hm ks x cs vs.toList nm hpc νc _ _ _ hB hy hc (fun n hn _ => hro n (by
      show n ∈ slN cs ++ []
      rw [List.append_nil]; exact hn)) hq1
    exact ⟨νc', _, h1, ⟨_, rfl, h2⟩, h3, h4, fun _ h => .inr h⟩
  | w g ks =>
    obtain ⟨cs, rfl, hy⟩ := mA_w h
    have hq : (match iWs ks x nm hpc with | (a, nm, hp) => (SV.a g a, nm, hp)) = (sv, nm', hpc') := hq
    generalize hq1 : iWs ks x nm hpc = q at hq
    obtain ⟨s1, n1, p1⟩ := q
    simp only [Prod.mk.injEq] at hq
    obtain ⟨rfl, rfl, rfl⟩ := hq
    have hpe : ptrs [AK.w g ks] [SV.a g cs] = rowsW ks cs := by
      show rowsW ks cs ++ [] = _
      rw [List.append_nil]
    have hre : rdsOf [AK.w g ks] [SV.a g cs] = rdW ks cs := by
      show rdW ks cs ++ [] = _
      rw [List.append_nil]
    rw [hpe] at hnd hG ⊢
    rw [hre] at hro
    cases g with
    | true =>
      obtain ⟨vs, rfl, hc⟩ := hv
      obtain ⟨νc', done', h1, h2, h3, h4, h5⟩ := Beg.wcells hm ks x cs vs.toList nm hpc νc done _ _ _ hB hy hc hro hnd hG hq1
      exact ⟨νc', done', h1, ⟨_, rfl, h2⟩, h3, h4, h5⟩
    | false =>
      obtain ⟨y, rfl, hc⟩ := hv
      obtain ⟨νc', done', h1, h2, h3, h4, h5⟩ := Beg.wcells hm ks x [y] [v] nm hpc νc done _ _ _ hB hy ⟨hc, trivial⟩ hro hnd hG hq1
      refine ⟨νc', done', h1, ?_, h3, h4, h5⟩
      match s1, h2 with
      | [z], h2 => exact ⟨z, rfl, h2.1⟩
      | [], h2 => exact h2.elim
      | _ :: _ :: _, h2 => exact h2.2.elim
  | ptr ks t =>
    obtain ⟨n, cs, rfl, hbox, hy⟩ := mA_ptr h
    have hq : (match iCs ks x (nm + 1) hpc with | (cs, nm', hp) => (one (.ptr nm 0), nm', upd hp nm (.box cs t))) = (sv, nm', hpc') := hq
    generalize hq1 : iCs ks x (nm + 1) hpc = q at hq
    obtain ⟨s1, n1, p1⟩ := q
    simp only [Prod.mk.injEq] at hq
    obtain ⟨rfl, rfl, rfl⟩ := hq
    obtain ⟨hnf, g, hg, hvv⟩ := hv.ptr
    have hent := hm.ent n
    rw [hbox] at hent
    obtain ⟨g', vs, hg', hheap, hcs⟩ := hent
    rw [hg] at hg'
    simp only [Value.pointer.injEq, Option.some.injEq, Addr.mk.injEq, and_true] at hg'
    subst hg'
    have hps : ptrs [.ptr ks t] [.a false [.ptr n 0]] = [n] := rfl
    have hGn := hG n (by rw [hps]; exact List.mem_cons_self)
    have hB' : Beg base G B w hp ν G' H (nm + 1) hpc νc done := ⟨hB.mem, fun m hm' => hB.free m (by omega), hB.nb, hB.nc, hB.link, hB.sub⟩
    have hbx : ∀ p, p ∈ H → boxE (hp p) := hbx.resolve_left (by intro h; cases h)
    obtain ⟨νc1, h1, h2, h3, h4, h5⟩ := Beg.cells hm ks x cs vs.toList (nm + 1) hpc νc s1 n1 p1 hB' hy hcs (fun n _ hnb hin => hnb (hbx n hin)) hq1
    have hslot : p1 nm = .free := by rw [h5 nm (by omega)]; exact hB.free nm (Nat.le_refl _)
    have hext := Ext.new (ν := νc1) hslot (.box s1 t) (.pointer (some ⟨g, 0, none⟩))
    have hn2 := h1.nc.add hslot (e := .box s1 t) (v := .pointer (some ⟨g, 0, none⟩)) trivial (fun _ g' hg' hb => h1.nb.sep n (by rw [hbox]; trivial) g' (by rw [hg]; exact hg') hb)
    have hadd := h1.mem.add hslot (e := .box s1 t) (v := .pointer (some ⟨g, 0, none⟩)) ⟨g, vs, rfl, hheap, h2.mono hext⟩ (by simp) (fun m hlm _ g' hg' hc => by
      simp only [blk, Option.some.injEq] at hg'
      subst hg'
      rcases h1.link m hlm with ⟨_, hbb⟩ | ⟨n', e1, e2, e3, e4⟩
      · exact h1.nb.sep n (by rw [hbox]; trivial) g (by rw [hg]; rfl) (hbb g hc)
      rw [e1] at hc
      have hne : n ≠ n' := fun e => by
        subst e
        by_cases hb : wrE (p1 m)
        · exact hGn.1 (e3 hb).1
        · exact e4 hb hGn.2.1
      exact hm.sep n n' hne (by rw [hbox]; trivial) e2 g (by rw [hg]; rfl) hc) (fun _ g' hg' => by
      simp only [blk, Option.some.injEq] at hg'
      subst hg'
      exact .inr (hGn.2.2 g (by rw [hg]; rfl))) ⟨B, hn2⟩
    refine ⟨upd νc1 nm (.pointer (some ⟨g, 0, none⟩)), ptrs [.ptr ks t] [.a false [.ptr n 0]] ++ done, ⟨hadd, fun m hm' => ?_, h1.nb, hn2, fun i hi => ?_, fun p hp' => ?_⟩, ⟨_, rfl, by rw [upd_same]; simp, g, by rw [upd_same], hvv⟩, h3.trans hext, by omega, fun p hp' => List.mem_append.1 hp'⟩
    · rw [upd_other _ _ (by omega)]
      exact h1.free m hm'
    · by_cases hin : i = nm
      · subst hin
        rw [upd_same, upd_same]
        exact .inr ⟨n, hg.symm, by rw [hbox]; trivial, fun _ => ⟨by rw [hps]; exact List.mem_cons_self, by rw [hbox]; trivial⟩, fun hh => absurd trivial hh⟩
      · rw [upd_other _ _ hin] at hi ⊢
        rw [upd_other _ _ hin]
        rcases h1.link i hi with q | ⟨n', e1, e2, e3, e4⟩
        · exact .inl q
        exact .inr ⟨n', e1, e2, fun hb => ⟨by rw [hps]; exact List.mem_cons_of_mem _ (e3 hb).1, (e3 hb).2⟩, e4⟩
    · rw [hps] at hp'
      rcases List.mem_append.1 hp' with hp' | hp'
      · rw [List.mem_singleton] at hp'; subst hp'; exact hGn.2.1
      · exact h1.sub p hp'
theorem ptrs_cons (k : AK) (r : List AK) (x : SV) (y : List SV) : ptrs (k :: r) (x :: y) = ptrs [k] [x] ++ ptrs r y := by
  cases k with
  | ptr ks t =>
    match x with
    | .a false [.ptr n 0] => rfl
    | .a false [.ptr n (m + 1)] => rfl
    | .a false [] => rfl
    | .a false [.any] | .a false [.bool _] | .a false [.int _ _] | .a false [.str _] | .a false [.nilp] | .a false [.sl _] | .a false [.nils] | .a false [.ep _ _ _ _] | .a false [.pj _ _ _ _] => rfl
    | .a false (x :: _ :: _) => cases x with
      | ptr n m => cases m <;> rfl
      | _ => rfl
    | .a true _ => rfl
    | .any => rfl
    | .tup _ => rfl
  | w g ks =>
    match x with
    | .a g' cs =>
      show rowsW ks cs ++ ptrs r y = (rowsW ks cs ++ []) ++ ptrs r y
      rw [List.append_nil]
    | .any => rfl
    | .tup _ => rfl
  | _ => rfl
theorem rdsOf_cons (k : AK) (r : List AK) (x : SV) (y : List SV) : rdsOf (k :: r) (x :: y) = rdsOf [k] [x] ++ rdsOf r y := by
  cases k with
  | ptr ks t => cases x <;> rfl
  | w g ks =>
    match x with
    | .a g' cs =>
      show rdW ks cs ++ rdsOf r y = (rdW ks cs ++ []) ++ rdsOf r y
      rw [List.append_nil]
    | .any => rfl
    | .tup _ => rfl
  | c k =>
    match x with
    | .a g' cs =>
      show slN cs ++ rdsOf r y = (slN cs ++ []) ++ rdsOf r y
      rw [List.append_nil]
    | .any => rfl
    | .tup _ => rfl
  | agg ks =>
    match x with
    | .a g' cs =>
      show slN cs ++ rdsOf r y = (slN cs ++ []) ++ rdsOf r y
      rw [List.append_nil]
    | .any => rfl
    | .tup _ => rfl
theorem noP_cons {k : AK} {r : List AK} (h : noP (k :: r) = true) : noP [k] = true ∧ noP r = true := by
  cases k with
  | ptr ks t => cases h
  | _ => exact ⟨rfl, h⟩
theorem Beg.args {G' : Nat → Prop} {H : List Nat} (hm : Mem base G w0 w hp ν) : ∀ (ks : List AK) (x : AKs ks) (sas : List SV) (vs : List Value) (nm : Nat) (hpc : Hp) (νc : Nat → Value) (done : List Nat) (svs : List SV) (nm' : Nat) (hpc' : Hp), Beg base G B w hp ν G' H nm hpc νc done → mAs hp ks sas = some x → VsRel hp ν sas vs →
    (∀ n, n ∈ rdsOf ks sas → n ∉ H) → (noP ks = true ∨ ∀ p, p ∈ H → boxE (hp p)) → nodupN (ptrs ks sas) = true → (∀ p, p ∈ ptrs ks sas → p ∉ done ∧ p ∈ H ∧ ∀ g, blk (ν p) = some g → G' g) → iAs ks x nm hpc = (svs, nm', hpc') →
    ∃ νc' done', Beg base G B w hp ν G' H nm' hpc' νc' done' ∧ VsRel hpc' νc' svs vs ∧ Ext hpc νc hpc' νc' ∧ nm ≤ nm'
  | [], x, sas, vs, nm, hpc, νc, done, svs, nm', hpc', hB, h, hv, _, _, _, _, hq => by
    have hq : (([] : List SV), nm, hpc) = (svs, nm', hpc') := hq
    simp only [Prod.mk.injEq] at hq
    obtain ⟨rfl, rfl, rfl⟩ := hq
    match sas, vs, hv with
    | [], [], _ => exact ⟨νc, done, hB, trivial, .refl _ _, Nat.le_refl _⟩
    | _ :: _, _, _ => exact no_some (α := Unit) h
  | [k], x, sas, vs, nm, hpc, νc, done, svs, nm', hpc', hB, h, hv, hro, hbx, hnd, hG, hq => by
    match sas, vs, hv with
    | [sa], [v], hv =>
      replace hq := (iAs_one k x nm hpc).symm.trans hq
      generalize hq1 : iA k x nm hpc = q at hq
      obtain ⟨a, b, c⟩ := q
      simp only [Prod.mk.injEq] at hq
      obtain ⟨rfl, rfl, rfl⟩ := hq
      obtain ⟨νc', done', h1, h2, h3, h4, _⟩ := hB.arg hm (k := k) (x := x) h hv.1 hro hbx hnd hG hq1
      exact ⟨νc', done', h1, ⟨h2, trivial⟩, h3, h4⟩
    | [], _, _ => exact no_some (α := k.T) h
    | _ :: _ :: _, _, _ => exact no_some (α := k.T) h
    | [_], [], hv => exact hv.elim
    | [_], _ :: _ :: _, hv => exact hv.2.elim
  | k :: k' :: r, x, sas, vs, nm, hpc, νc, done, svs, nm', hpc', hB, h, hv, hro, hbx, hnd, hG, hq => by
    match sas, vs, hv with
    | sa :: sar, v :: vr, hv =>
      rw [mAs_cons] at h
      split at h
      · rename_i a b ha hb
        have h : some (a, b) = some x := h
        injection h with h
        subst h
        rw [ptrs_cons] at hnd hG
        rw [rdsOf_cons] at hro
        obtain ⟨hnd1, hnd2⟩ := nodup_app hnd
        have hnd3 := nodup_left hnd
        replace hq : (match iA k a nm hpc with
          | (s, n, p) => match iAs (k' :: r) b n p with
            | (s', n', p') => (s :: s', n', p')) = (svs, nm', hpc') := hq
        generalize hq1 : iA k a nm hpc = q at hq
        obtain ⟨s1, n1, p1⟩ := q
        simp only [] at hq
        generalize hq2 : iAs (k' :: r) b n1 p1 = q at hq
        obtain ⟨s2, n2, p2⟩ := q
        simp only [Prod.mk.injEq] at hq
        obtain ⟨rfl, rfl, rfl⟩ := hq
        obtain ⟨νc1, done1, h1, h2, h3, h4, h5⟩ := hB.arg hm (k := k) (x := a) ha hv.1 (fun n hn => hro n (List.mem_append_left _ hn)) (hbx.imp (fun h => (noP_cons h).1) id) hnd3 (fun p hp => hG p (List.mem_append_left _ hp)) hq1
        obtain ⟨νc2, done2, g1, g2, g3, g4⟩ := Beg.args hm (k' :: r) b sar vr n1 p1 νc1 done1 s2 n2 p2 h1 hb hv.2 (fun n hn => hro n (List.mem_append_right _ hn)) (hbx.imp (fun h => (noP_cons h).2) id) hnd1 (fun p hp => ⟨fun hin => by
          rcases h5 p hin with hin | hin
          · exact hnd2 p hin hp
          · exact (hG p (List.mem_append_right _ hp)).1 hin, (hG p (List.mem_append_right _ hp)).2⟩) hq2
        exact ⟨νc2, done2, g1, ⟨h2.mono g3, g2⟩, h3.trans g3, Nat.le_trans h4 g4⟩
      · cases h
    | [], _, _ => exact no_some (α := k.T × AKs (k' :: r)) h
    | _ :: _, [], hv => exact hv.elim
end
end Go.Sx
/- A call's end: what it hands back, and what the boxes that it was handed hold. -/
set_option linter.unusedVariables false
set_option linter.unusedSimpArgs false
namespace Go.Sx
section inv
variable {args : List SV} {old : SC} {hpF hpF' : Hp}
theorem exC_int {k : IntKind} {x : SC} {b : Int} (h : exC args old hpF (.int k) x = some (b, hpF')) : x = .int k b ∧ hpF' = hpF := by
  cases x with
  | int k' n =>
    have h2 : (cnd (keq k k') (some (n, hpF)) none : Option (Int × Hp)) = some (b, hpF') := h
    clear h
    cases hk : keq k k' with
    | false => rw [hk] at h2; exact no_some h2
    | true =>
      rw [hk] at h2
      have := keq_eq hk
      subst this
      have h3 : some (n, hpF) = some (b, hpF') := h2
      injection h3 with h3
      injection h3 with h3 h4
      subst h3 h4
      exact ⟨rfl, rfl⟩
  | _ => exact no_some (α := Int × Hp) h
theorem exC_bool {x : SC} {b : Bool} (h : exC args old hpF .bool x = some (b, hpF')) : ∃ s, x = .bool s ∧ b = s.b ∧ hpF' = hpF := by
  cases x with
  | bool s =>
    have h3 : some (s.b, hpF) = some (b, hpF') := h
    injection h3 with h3
    injection h3 with h3 h4
    exact ⟨s, rfl, h3.symm, h4.symm⟩
  | _ => exact no_some (α := Bool × Hp) h
theorem exC_str {x : SC} {b : ByteArray} (h : exC args old hpF .str x = some (b, hpF')) : x = .str b ∧ hpF' = hpF := by
  cases x with
  | str s =>
    have h3 : some (s, hpF) = some (b, hpF') := h
    injection h3 with h3
    injection h3 with h3 h4
    subst h3 h4
    exact ⟨rfl, rfl⟩
  | _ => exact no_some (α := ByteArray × Hp) h
theorem exC_own {t : Ty} {e : TypeId} {x : SC} {b : List t.T} (h : exC args old hpF (.own t e) x = some (b, hpF')) : (∃ n, x = .sl n ∧ hpF n = .row t b e ∧ hpF' = upd hpF n .dead ∧ n ∉ slA args) ∨ (x = .nils ∧ b = [] ∧ hpF' = hpF) := by
  cases x with
  | sl n =>
    have h2 : (match hpF n with
      | .row t' l e' => match t'.dec t with
        | some ⟨h⟩ => cnd (Nat.beq e e' && !(memN n (slA args))) (some ((h ▸ l : List t.T), upd hpF n .dead)) none
        | none => none
      | _ => none) = some (b, hpF') := h
    clear h
    left
    refine ⟨n, rfl, ?_⟩
    cases hr : hpF n with
    | row t' l e' =>
      rw [hr] at h2
      have h3 : (match t'.dec t with
        | some ⟨h⟩ => cnd (Nat.beq e e' && !(memN n (slA args))) (some ((h ▸ l : List t.T), upd hpF n .dead)) none
        | none => none) = some (b, hpF') := h2
      clear h2
      split at h3
      · rename_i heq _
        subst heq
        cases he : (Nat.beq e e' && !(memN n (slA args))) with
        | false => rw [he] at h3; exact no_some (α := List t'.T × Hp) h3
        | true =>
          rw [he] at h3
          rw [Bool.and_eq_true, Bool.not_eq_true'] at he
          have := Nat.eq_of_beq_eq_true he.1
          subst this
          have h4 : some (l, upd hpF n .dead) = some (b, hpF') := h3
          injection h4 with h4
          injection h4 with h4 h5
          subst h4
          exact ⟨rfl, h5.symm, fun hin => by rw [memN_iff.2 hin] at he; cases he.2⟩
      · exact no_some h3
    | _ => rw [hr] at h2; exact no_some (α := List t.T × Hp) h2
  | nils =>
    have h3 : some (([] : List t.T), hpF) = some (b, hpF') := h
    injection h3 with h3
    injection h3 with h3 h4
    exact .inr ⟨rfl, h3.symm, h4.symm⟩
  | _ => exact no_some (α := List t.T × Hp) h
theorem exC_exr {t : Ty} {e : TypeId} {x : SC} {b : List t.T} (h : exC args old hpF (.exr t e) x = some (b, hpF')) : (∃ n, x = .sl n ∧ (∃ e', hpF n = .row t b e' ∨ hpF n = .ex t b e') ∧ hpF' = upd hpF n .dead ∧ n ∉ slA args) ∨ (x = .nils ∧ b = [] ∧ hpF' = hpF) := by
  cases x with
  | sl n =>
    have h2 : (match hpF n with
      | .row t' l e' => match t'.dec t with
        | some ⟨h⟩ => cnd (!(memN n (slA args))) (some ((h ▸ l : List t.T), upd hpF n .dead)) none
        | none => none
      | .ex t' l e' => match t'.dec t with
        | some ⟨h⟩ => cnd (!(memN n (slA args))) (some ((h ▸ l : List t.T), upd hpF n .dead)) none
        | none => none
      | _ => none) = some (b, hpF') := h
    clear h
    left
    refine ⟨n, rfl, ?_⟩
    cases hr : hpF n with
    | row t' l e' =>
      rw [hr] at h2
      have h3 : (match t'.dec t with
        | some ⟨h⟩ => cnd (!(memN n (slA args))) (some ((h ▸ l : List t.T), upd hpF n .dead)) none
        | none => none) = some (b, hpF') := h2
      clear h2
      split at h3
      · rename_i heq _
        subst heq
        cases he : (!(memN n (slA args))) with
        | false => rw [he] at h3; exact no_some (α := List t'.T × Hp) h3
        | true =>
          rw [he] at h3
          rw [Bool.not_eq_true'] at he
          have h4 : some (l, upd hpF n .dead) = some (b, hpF') := h3
          injection h4 with h4
          injection h4 with h4 h5
          subst h4
          exact ⟨⟨e', .inl rfl⟩, h5.symm, fun hin => by rw [memN_iff.2 hin] at he; cases he⟩
      · exact no_some h3
    | ex t' l e' =>
      rw [hr] at h2
      have h3 : (match t'.dec t with
        | some ⟨h⟩ => cnd (!(memN n (slA args))) (some ((h ▸ l : List t.T), upd hpF n .dead)) none
        | none => none) = some (b, hpF') := h2
      clear h2
      split at h3
      · rename_i heq _
        subst heq
        cases he : (!(memN n (slA args))) with
        | false => rw [he] at h3; exact no_some (α := List t'.T × Hp) h3
        | true =>
          rw [he] at h3
          rw [Bool.not_eq_true'] at he
          have h4 : some (l, upd hpF n .dead) = some (b, hpF') := h3
          injection h4 with h4
          injection h4 with h4 h5
          subst h4
          exact ⟨⟨e', .inr rfl⟩, h5.symm, fun hin => by rw [memN_iff.2 hin] at he; cases he⟩
      · exact no_some h3
    | _ => rw [hr] at h2; exact no_some (α := List t.T × Hp) h2
  | nils =>
    have h3 : some (([] : List t.T), hpF) = some (b, hpF') := h
    injection h3 with h3
    injection h3 with h3 h4
    exact .inr ⟨rfl, h3.symm, h4.symm⟩
  | _ => exact no_some (α := List t.T × Hp) h
theorem exC_nown {t : NT} {e : TypeId} {x : SC} {b : List t.T} (h : exC args old hpF (.nown t e) x = some (b, hpF')) : (∃ n, x = .sl n ∧ hpF n = .nrow t b e ∧ hpF' = upd hpF n .dead ∧ n ∉ slA args) ∨ (x = .nils ∧ b = [] ∧ hpF' = hpF) := by
  cases x with
  | sl n =>
    have h2 : (match hpF n with
      | .nrow t' l e' => match t'.dec t with
        | some ⟨h⟩ => cnd (Nat.beq e e' && !(memN n (slA args))) (some ((h ▸ l : List t.T), upd hpF n .dead)) none
        | none => none
      | _ => none) = some (b, hpF') := h
    clear h
    left
    refine ⟨n, rfl, ?_⟩
    cases hr : hpF n with
    | nrow t' l e' =>
      rw [hr] at h2
      have h3 : (match t'.dec t with
        | some ⟨h⟩ => cnd (Nat.beq e e' && !(memN n (slA args))) (some ((h ▸ l : List t.T), upd hpF n .dead)) none
        | none => none) = some (b, hpF') := h2
      clear h2
      split at h3
      · rename_i heq _
        subst heq
        cases he : (Nat.beq e e' && !(memN n (slA args))) with
        | false => rw [he] at h3; exact no_some (α := List t'.T × Hp) h3
        | true =>
          rw [he] at h3
          rw [Bool.and_eq_true, Bool.not_eq_true'] at he
          have := Nat.eq_of_beq_eq_true he.1
          subst this
          have h4 : some (l, upd hpF n .dead) = some (b, hpF') := h3
          injection h4 with h4
          injection h4 with h4 h5
          subst h4
          exact ⟨rfl, h5.symm, fun hin => by rw [memN_iff.2 hin] at he; cases he.2⟩
      · exact no_some h3
    | _ => rw [hr] at h2; exact no_some (α := List t.T × Hp) h2
  | nils =>
    have h3 : some (([] : List t.T), hpF) = some (b, hpF') := h
    injection h3 with h3
    injection h3 with h3 h4
    exact .inr ⟨rfl, h3.symm, h4.symm⟩
  | _ => exact no_some (α := List t.T × Hp) h
theorem sameSl_some {x y : SC} (h : sameSl x y = true) : ∃ q, x = .sl q ∧ y = .sl q := by
  cases x with
  | sl n => cases y with
    | sl m => have := Nat.eq_of_beq_eq_true h; subst this; exact ⟨n, rfl, rfl⟩
    | _ => cases h
  | _ => cases y <;> cases h
theorem exC_al {i j : Nat} {x : SC} {b : Unit} (h : exC args old hpF (.al i j) x = some (b, hpF')) : ∃ q, x = .sl q ∧ cellOf args i j = .sl q ∧ hpF' = hpF := by
  have h2 : (cnd (sameSl x (cellOf args i j)) (some ((), hpF)) none : Option (Unit × Hp)) = some (b, hpF') := by cases x <;> exact h
  clear h
  cases hs : sameSl x (cellOf args i j) with
  | false => rw [hs] at h2; exact no_some h2
  | true =>
    rw [hs] at h2
    have h3 : some ((), hpF) = some (b, hpF') := h2
    injection h3 with h3
    injection h3 with _ h4
    obtain ⟨q, h5, h6⟩ := sameSl_some hs
    exact ⟨q, h5, h6, h4.symm⟩
theorem exC_keep {x : SC} {b : Unit} (h : exC args old hpF .keep x = some (b, hpF')) : ∃ q, x = .sl q ∧ old = .sl q ∧ hpF' = hpF := by
  have h2 : (cnd (sameSl x old) (some ((), hpF)) none : Option (Unit × Hp)) = some (b, hpF') := by cases x <;> exact h
  clear h
  cases hs : sameSl x old with
  | false => rw [hs] at h2; exact no_some h2
  | true =>
    rw [hs] at h2
    have h3 : some ((), hpF) = some (b, hpF') := h2
    injection h3 with h3
    injection h3 with _ h4
    obtain ⟨q, h5, h6⟩ := sameSl_some hs
    exact ⟨q, h5, h6, h4.symm⟩
theorem exCs_one (k : RK) (x : SC) (olds : List SC) : exCs args [k] [x] olds hpF = exC args (olds.headD .any) hpF k x := rfl
theorem exCs_cons (k k' : RK) (r : List RK) (x : SC) (y olds : List SC) : exCs args (k :: k' :: r) (x :: y) olds hpF = ((match exC args (olds.headD .any) hpF k x with
    | some (a, hp) => match exCs args (k' :: r) y olds.tail hp with
      | some (b, hp) => some ((a, b), hp)
      | none => none
    | none => none) : Option ((k.T × RKs (k' :: r)) × Hp)) := rfl
end inv
/-- A heap some of whose names are not to be looked at. -/
def deadOf (rem : List Nat) (hp : Hp) : Hp := fun n => cnd (memN n rem) .dead (hp n)
theorem deadOf_in {rem : List Nat} {hp : Hp} {n : Nat} (h : n ∈ rem) : deadOf rem hp n = .dead := by unfold deadOf; rw [memN_iff.2 h]; rfl
theorem memN_false {n : Nat} {l : List Nat} (h : n ∉ l) : memN n l = false := by
  cases hm : memN n l with
  | false => rfl
  | true => exact absurd (memN_iff.1 hm) h
theorem deadOf_out {rem : List Nat} {hp : Hp} {n : Nat} (h : n ∉ rem) : deadOf rem hp n = hp n := by unfold deadOf; rw [memN_false h]; rfl
theorem deadOf_upd {rem : List Nat} {hp : Hp} {n : Nat} (h : n ∉ rem) (e : Ent) : deadOf rem (upd hp n e) = upd (deadOf rem hp) n e := by
  funext k
  by_cases hk : k ∈ rem
  · have : k ≠ n := fun e => by subst e; exact h hk
    rw [deadOf_in hk, upd_other _ _ this, deadOf_in hk]
  · rw [deadOf_out hk]
    by_cases hkn : k = n
    · subst hkn; rw [upd_same, upd_same]
    · rw [upd_other _ _ hkn, upd_other _ _ hkn, deadOf_out hk]
theorem deadOf_nil (hp : Hp) : deadOf [] hp = hp := by funext k; rw [deadOf_out (by simp)]
theorem deadOf_ext {rem : List Nat} {hp : Hp} {ν : Nat → Value} (h : ∀ p, p ∈ rem → hp p ≠ .free) : Ext hp ν (deadOf rem hp) ν ∧ Ext (deadOf rem hp) ν hp ν := by
  constructor
  · refine ⟨fun n hn => ⟨?_, rfl⟩⟩
    by_cases hk : n ∈ rem
    · rw [deadOf_in hk]; simp
    · rw [deadOf_out hk]; exact hn
  · refine ⟨fun n hn => ⟨?_, rfl⟩⟩
    by_cases hk : n ∈ rem
    · exact h n hk
    · rw [deadOf_out hk] at hn; exact hn
section
variable {base : Nat} {G : Nat → Prop} {w0 w : World} {hp : Hp} {ν : Nat → Value}
/-- A name that was not looked at is looked at again. -/
theorem Mem.revive (h : Mem base G w0 w hp ν) {p : Nat} (hd : ¬ lvE (hp p)) (hnf : hp p ≠ .free) {e : Ent} (hfree : e ≠ .free) (he : EntRel base (upd hp p e) ν w e (ν p))
    (hsep : ∀ m, lvE (hp m) → ∀ g, blk (ν p) = some g → blk (ν m) ≠ some g) (hmine : ∀ g, blk (ν p) = some g → base ≤ g ∨ G g) (hnst : ∃ B, NestOK base G w (upd hp p e) ν B) : Mem base G w0 w (upd hp p e) ν := by
  have hext : Ext hp ν (upd hp p e) ν := ⟨fun n hn => ⟨by
    by_cases hq : n = p
    · subst hq; rw [upd_same]; exact hfree
    · rw [upd_other _ _ hq]; exact hn, rfl⟩⟩
  refine ⟨fun n => ?_, fun n m hne hwn hlm g hg => ?_, fun n hwn g hg => ?_, h.fr, hnst⟩
  · by_cases hnm : n = p
    · subst hnm; rw [upd_same]; exact he
    · rw [upd_other _ _ hnm]; exact (h.ent n).mono hext
  · by_cases hnn : n = p
    · subst hnn
      have hm : m ≠ n := fun e => hne e.symm
      rw [upd_other _ _ hm] at hlm
      exact hsep m hlm g hg
    · rw [upd_other _ _ hnn] at hwn
      by_cases hmm : m = p
      · subst hmm
        intro hc
        exact hsep n hwn.lv g hc hg
      · rw [upd_other _ _ hmm] at hlm
        exact h.sep n m hne hwn hlm g hg
  · by_cases hnn : n = p
    · subst hnn; exact hmine g hg
    · rw [upd_other _ _ hnn] at hwn
      exact h.mine n hwn g hg
theorem own_base_mono0 {B B' : Nat} (hB : B ≤ B') {e : TypeId} {size n : Nat} {v : Value} {xs : List Value} (h : w.ownsRow B' e size v n xs) : w.ownsRow B e size v n xs := by
  refine ⟨h.1, ?_⟩
  rcases h.2 with h2 | ⟨g, cap, cur, h1, h2, h3⟩
  · exact .inl h2
  · exact .inr ⟨g, cap, cur, h1, Nat.le_trans hB h2, h3⟩
end
/-- The two sides of a call that ends: the caller's names, the callee's. -/
structure Fin where
  base : Nat
  G : Nat → Prop
  w0 : World
  w : World
  wF : World
  hp : Hp
  ν : Nat → Value
  νF : Nat → Value
  ν0 : Nat → Value
  ps : List Nat
  top : Nat
  qs : List Nat
  B : Nat → Prop
  Bc : Nat → Prop
/-- The blocks that nobody writes any more, behind the call. -/
def Fin.B' (F : Fin) : Nat → Prop := fun b => F.B b ∨ (F.w.heap.size ≤ b ∧ F.Bc b)
structure FinOK (F : Fin) : Prop where
  mem : Mem F.base F.G F.w0 F.w F.hp F.ν
  box : ∀ p, p ∈ F.ps → wrE (F.hp p)
  pair : ∀ p, p ∈ F.ps → ∃ q, q ∈ F.qs ∧ F.νF q = F.ν p
  nb : NestOK F.base F.G F.w F.hp F.ν F.B
def Fin.G' (F : Fin) : Nat → Prop := G0 F.ν F.ps
/-- Where the handing back stands. -/
structure EndI (F : Fin) (rem remC : List Nat) (nm : Nat) (hpc : Hp) (νc : Nat → Value) (hpF : Hp) : Prop where
  mem : Mem F.base F.G F.w0 F.wF (deadOf rem hpc) νc
  ext : Ext F.hp F.ν hpc νc
  old : ∀ p, p ∈ rem → hpc p = F.hp p
  sub : ∀ p, p ∈ rem → p ∈ F.ps
  free : ∀ n, nm ≤ n → n < F.top → hpc n = .free
  memF : Mem F.w.heap.size F.G' F.w F.wF hpF F.νF
  cross : ∀ q, wrE (hpF q) → ∀ g, blk (F.νF q) = some g → ¬ F.G' g → ∀ m, lvE (deadOf rem hpc m) → blk (νc m) ≠ some g
  sepR : ∀ p, p ∈ rem → ∀ m, lvE (deadOf rem hpc m) → ∀ g, blk (F.ν p) = some g → blk (νc m) ≠ some g
  boxF : ∀ p, p ∈ remC → boxE (hpF p) ∨ p ∈ F.qs
  allF : ∀ p, p ∈ F.qs → wrE (hpF p)
  nst : NestOK F.base F.G F.wF (deadOf rem hpc) νc F.B'
  nstF : NestOK F.w.heap.size F.G' F.wF hpF F.νF F.Bc
section
variable {F : Fin} {rem remC : List Nat} {nm : Nat} {hpc : Hp} {νc : Nat → Value} {hpF : Hp}
theorem FinOK.small (hF : FinOK F) {g : Nat} (h : F.G' g) : g < F.w.heap.size := by
  obtain ⟨p, hp, hg⟩ := h
  exact blk_lt (hF.mem.ent p) (hF.box p hp).lv g hg
theorem FinOK.notB (hF : FinOK F) {p : Nat} (hp : p ∈ F.ps) {g : Nat} (hg : blk (F.ν p) = some g) : ¬ F.B' g := by
  rintro (h | ⟨h, _⟩)
  · exact hF.nb.sep p (hF.box p hp) g hg h
  · have := hF.small ⟨p, hp, hg⟩
    omega
theorem EndI.notrem (hE : EndI F rem remC nm hpc νc hpF) (hF : FinOK F) {s : Nat} (hs : hpc s = .free) : s ∉ rem := fun h => by
  have h1 := hE.old s h
  have h2 := hF.box s (hE.sub s h)
  rw [← h1, hs] at h2
  exact h2
/-- Something is handed back: it lies in a block that no live name of the caller's has. -/
theorem EndI.install (hE : EndI F rem remC nm hpc νc hpF) (hF : FinOK F) {s nm' : Nat} (hs : hpc s = .free) (hnm : nm ≤ nm') (hsn : s < nm') {e : Ent} {v : Value} (hfree : e ≠ .free) {hpF' : Hp}
    (he : EntRel F.base (upd (deadOf rem hpc) s e) (upd νc s v) F.wF e v)
    (hb : ∀ g, blk v = some g → ¬ F.G' g ∧ F.base ≤ g ∧ (∀ m, lvE (deadOf rem hpc m) → blk (νc m) ≠ some g) ∧ (∀ q, wrE (hpF' q) → blk (F.νF q) ≠ some g))
    (hrel : NestRel F.base F.G F.wF F.B' (upd (deadOf rem hpc) s e) (upd νc s v) s e) (hbB : ∀ g, blk v = some g → ¬ F.B' g) (hnF : NestOK F.w.heap.size F.G' F.wF hpF' F.νF F.Bc)
    (hmF : Mem F.w.heap.size F.G' F.w F.wF hpF' F.νF) (hsub : ∀ q, wrE (hpF' q) → wrE (hpF q)) (hboxF : ∀ p, p ∈ remC → boxE (hpF' p) ∨ p ∈ F.qs) (hallF : ∀ p, p ∈ F.qs → wrE (hpF' p)) :
    EndI F rem remC nm' (upd hpc s e) (upd νc s v) hpF' ∧ Ext hpc νc (upd hpc s e) (upd νc s v) := by
  have hnr := hE.notrem hF hs
  have hext := Ext.new (ν := νc) hs e v
  have hd : deadOf rem hpc s = .free := by rw [deadOf_out hnr]; exact hs
  have hns := hE.nst.addG hd hrel (fun _ g hg => hbB g hg)
  refine ⟨⟨?_, hE.ext.trans hext, fun p hp => ?_, hE.sub, fun n h1 h2 => ?_, hmF, fun q hq g hg hG m hm => ?_, fun p hp m hm g hg => ?_, hboxF, hallF, by rw [deadOf_upd hnr]; exact hns, hnF⟩, hext⟩
  · rw [deadOf_upd hnr]
    exact hE.mem.add hd he hfree (fun m hm _ g hg hc => (hb g hg).2.2.1 m hm hc) (fun _ g hg => .inl (hb g hg).2.1) ⟨_, hns⟩
  · have : p ≠ s := fun e => by subst e; exact hnr hp
    rw [upd_other _ _ this]; exact hE.old p hp
  · rw [upd_other _ _ (by omega)]; exact hE.free n (by omega) h2
  · rw [deadOf_upd hnr] at hm
    by_cases hms : m = s
    · subst hms
      rw [upd_same]
      intro hc
      exact (hb g hc).2.2.2 q hq hg
    · rw [upd_other _ _ hms] at hm ⊢
      exact hE.cross q (hsub q hq) g hg hG m hm
  · rw [deadOf_upd hnr] at hm
    by_cases hms : m = s
    · subst hms
      rw [upd_same]
      intro hc
      exact (hb g hc).1 ⟨p, hE.sub p hp, hg⟩
    · rw [upd_other _ _ hms] at hm ⊢
      exact hE.sepR p hp m hm g hg
/-- A block of the callee's that is none of those handed. -/
theorem EndI.fresh (hE : EndI F rem remC nm hpc νc hpF) (hF : FinOK F) {n : Nat} (hw : wrE (hpF n)) (hn : n ∉ F.qs) {g : Nat} (hg : blk (F.νF n) = some g) : ¬ F.G' g ∧ F.w.heap.size ≤ g := by
  have hG : ¬ F.G' g := by
    rintro ⟨p, hp, hpg⟩
    obtain ⟨q, hq, hqe⟩ := hF.pair p hp
    rw [← hqe] at hpg
    exact hE.memF.sep n q (fun e => by subst e; exact hn hq) hw (hE.allF q hq).lv g hg hpg
  refine ⟨hG, ?_⟩
  rcases hE.memF.mine n hw g hg with h5 | h5
  · exact h5
  · exact absurd h5 hG
theorem EndI.notB (hE : EndI F rem remC nm hpc νc hpF) (hF : FinOK F) {n : Nat} (hw : wrE (hpF n)) (hn : n ∉ F.qs) {g : Nat} (hg : blk (F.νF n) = some g) : ¬ F.B' g := by
  have h1 := (hE.fresh hF hw hn hg).2
  rintro (h | ⟨_, h⟩)
  · have := hF.nb.lt g h
    omega
  · exact hE.nstF.sep n hw g hg h
/-- One cell is handed back. -/
theorem EndI.cell (hE : EndI F rem remC nm hpc νc hpF) (hF : FinOK F) {argsC args : List SV} (hqs : ∀ q, q ∈ F.qs → q ∈ slA argsC) {oldC old : SC} {k : RK} {x : SC} {b : k.T} {hpF' : Hp} {v : Value} {sc : SC} {nm' : Nat} {hpc' : Hp}
    (h : exC argsC oldC hpF k x = some (b, hpF')) (hv : CRel hpF F.νF x v) (hq : inC args old nm hpc k b = (sc, nm', hpc')) (htop : nm + RK.news [k] ≤ F.top)
    (hal : ∀ i j q, cellOf argsC i j = .sl q → CRel F.hp F.ν (cellOf args i j) (F.νF q)) (hold : ∀ q, oldC = .sl q → CRel F.hp F.ν old (F.νF q)) :
    ∃ νc', EndI F rem remC nm' hpc' νc' hpF' ∧ CRel hpc' νc' sc v ∧ Ext hpc νc hpc' νc' ∧ Ext hpF F.νF hpF' F.νF ∧ nm' = nm + RK.news [k] ∧ (∀ n, n < nm → hpc n ≠ .free → hpc' n ≠ .free) ∧ (∀ n, n < nm → hpc' n = hpc n) := by
  cases k with
  | int k =>
    obtain ⟨rfl, rfl⟩ := exC_int h
    have hq : (SC.int k b, nm, hpc) = (sc, nm', hpc') := hq
    simp only [Prod.mk.injEq] at hq
    obtain ⟨rfl, rfl, rfl⟩ := hq
    exact ⟨νc, hE, hv, .refl _ _, .refl _ _, rfl, fun _ _ h => h, fun _ _ => rfl⟩
  | bool =>
    obtain ⟨s, rfl, hb, rfl⟩ := exC_bool h
    have hq : (SC.bool (.v b), nm, hpc) = (sc, nm', hpc') := hq
    simp only [Prod.mk.injEq] at hq
    obtain ⟨rfl, rfl, rfl⟩ := hq
    have hvv : v = .bool s.b := hv
    exact ⟨νc, hE, by rw [hvv, ← hb]; rfl, .refl _ _, .refl _ _, rfl, fun _ _ h => h, fun _ _ => rfl⟩
  | str =>
    obtain ⟨rfl, rfl⟩ := exC_str h
    have hq : (SC.str b, nm, hpc) = (sc, nm', hpc') := hq
    simp only [Prod.mk.injEq] at hq
    obtain ⟨rfl, rfl, rfl⟩ := hq
    exact ⟨νc, hE, hv, .refl _ _, .refl _ _, rfl, fun _ _ h => h, fun _ _ => rfl⟩
  | al i j =>
    obtain ⟨q, rfl, hc, rfl⟩ := exC_al h
    have hq : (cellOf args i j, nm, hpc) = (sc, nm', hpc') := hq
    simp only [Prod.mk.injEq] at hq
    obtain ⟨rfl, rfl, rfl⟩ := hq
    obtain ⟨_, hvv, _⟩ := hv
    exact ⟨νc, hE, by rw [hvv]; exact (hal i j q hc).mono hE.ext, .refl _ _, .refl _ _, rfl, fun _ _ h => h, fun _ _ => rfl⟩
  | keep =>
    obtain ⟨q, rfl, hc, rfl⟩ := exC_keep h
    have hq : (old, nm, hpc) = (sc, nm', hpc') := hq
    simp only [Prod.mk.injEq] at hq
    obtain ⟨rfl, rfl, rfl⟩ := hq
    obtain ⟨_, hvv, _⟩ := hv
    exact ⟨νc, hE, by rw [hvv]; exact (hold q hc).mono hE.ext, .refl _ _, .refl _ _, rfl, fun _ _ h => h, fun _ _ => rfl⟩
  | own t e =>
    have hq : (SC.sl nm, nm + 1, upd hpc nm (.row t b e)) = (sc, nm', hpc') := hq
    simp only [Prod.mk.injEq] at hq
    obtain ⟨rfl, rfl, rfl⟩ := hq
    have htop' : nm + 1 ≤ F.top := htop
    have hs : hpc nm = .free := hE.free nm (Nat.le_refl _) (by omega)
    rcases exC_own h with ⟨n, rfl, hrow, rfl, hnq⟩ | ⟨rfl, rfl, rfl⟩
    · obtain ⟨hnf, hvv, hsl⟩ := hv
      have hent := hE.memF.ent n
      rw [hrow] at hent
      have hown : F.wF.ownsRow 0 e t.size (F.νF n) b.length (t.flat b) := hent
      have hbase : F.base ≤ F.w.heap.size := hF.mem.fr.bs
      have hwn : wrE (hpF n) := by rw [hrow]; trivial
      have hnq' : n ∉ F.qs := fun hin => hnq (hqs n hin)
      have hblk : ∀ g, blk (F.νF n) = some g → ¬ F.G' g ∧ F.w.heap.size ≤ g := fun g hg => hE.fresh hF hwn hnq' hg
      have hI := hE.install hF (s := nm) (nm' := nm + 1) hs (by omega) (by omega) (e := .row t b e) (v := F.νF n) (by simp) (hpF' := upd hpF n .dead)
        hown (fun g hg => by
          have hG : ¬ F.G' g := (hblk g hg).1
          refine ⟨hG, by have := (hblk g hg).2; omega, fun m hm => hE.cross n hwn g hg hG m hm, fun q hq hc => ?_⟩
          have hqn : q ≠ n := fun e => by subst e; rw [upd_same] at hq; exact hq
          rw [upd_other _ _ hqn] at hq
          exact hE.memF.sep n q (fun e => hqn e.symm) hwn hq.lv g hg hc) trivial (fun g hg => hE.notB hF hwn hnq' hg) (hE.nstF.turn (by simp) trivial (fun q => q.elim)) (hE.memF.kill n) (fun q hq => by
          have hqn : q ≠ n := fun e => by subst e; rw [upd_same] at hq; exact hq
          rw [upd_other _ _ hqn] at hq
          exact hq) (fun p hp => by
          have hpn : p ≠ n := fun e => by
            subst e
            rcases hE.boxF p hp with h1 | h1
            · rw [hrow] at h1; exact h1
            · exact hnq' h1
          rw [upd_other _ _ hpn]
          exact hE.boxF p hp) (fun p hp => by
          have hpn : p ≠ n := fun e => by subst e; exact hnq' hp
          rw [upd_other _ _ hpn]
          exact hE.allF p hp)
      refine ⟨_, hI.1, ⟨by rw [upd_same]; simp, by rw [upd_same]; exact hvv, hsl⟩, hI.2, Ext.kill _ _ _, rfl, fun m hm hmf => ?_, fun m hm => upd_other _ _ (by omega)⟩
      rw [upd_other _ _ (by omega)]; exact hmf
    · have hvv : v = .slice none 0 0 := hv
      have hI := hE.install hF (s := nm) (nm' := nm + 1) hs (by omega) (by omega) (e := .row t [] e) (v := .slice none 0 0) (by simp) (hpF' := hpF')
        ⟨by simp [Ty.flat], .inl ⟨rfl, rfl⟩⟩ (fun g hg => by cases hg) trivial (fun g hg => by cases hg) hE.nstF hE.memF (fun q hq => hq) hE.boxF hE.allF
      refine ⟨_, hI.1, ⟨by rw [upd_same]; simp, by rw [upd_same]; exact hvv, none, 0, 0, hvv⟩, hI.2, .refl _ _, rfl, fun m hm hmf => ?_, fun m hm => upd_other _ _ (by omega)⟩
      rw [upd_other _ _ (by omega)]; exact hmf
  | nown t e =>
    have hq : (SC.sl nm, nm + 1, upd hpc nm (.nrow t b e)) = (sc, nm', hpc') := hq
    simp only [Prod.mk.injEq] at hq
    obtain ⟨rfl, rfl, rfl⟩ := hq
    have htop' : nm + 1 ≤ F.top := htop
    have hs : hpc nm = .free := hE.free nm (Nat.le_refl _) (by omega)
    rcases exC_nown h with ⟨n, rfl, hrow, rfl, hnq⟩ | ⟨rfl, rfl, rfl⟩
    · obtain ⟨hnf, hvv, hsl⟩ := hv
      have hent := hE.memF.ent n
      rw [hrow] at hent
      have hown : ∃ fl, F.wF.ownsRow 0 e t.size (F.νF n) (List.length b) fl := hent
      have hrel := hE.nstF.rel n
      rw [hrow] at hrel
      obtain ⟨fl, hfl, hnf2⟩ := hrel
      have hbase : F.base ≤ F.w.heap.size := hF.mem.fr.bs
      have hwn : wrE (hpF n) := by rw [hrow]; trivial
      have hnq' : n ∉ F.qs := fun hin => hnq (hqs n hin)
      have hblk : ∀ g, blk (F.νF n) = some g → ¬ F.G' g ∧ F.w.heap.size ≤ g := fun g hg => hE.fresh hF hwn hnq' hg
      have hI := hE.install hF (s := nm) (nm' := nm + 1) hs (by omega) (by omega) (e := .nrow t b e) (v := F.νF n) (by simp) (hpF' := upd hpF n .dead)
        hown (fun g hg => by
          have hG : ¬ F.G' g := (hblk g hg).1
          refine ⟨hG, by have := (hblk g hg).2; omega, fun m hm => hE.cross n hwn g hg hG m hm, fun q hq hc => ?_⟩
          have hqn : q ≠ n := fun e => by subst e; rw [upd_same] at hq; exact hq
          rw [upd_other _ _ hqn] at hq
          exact hE.memF.sep n q (fun e => hqn e.symm) hwn hq.lv g hg hc) ⟨fl, by rw [upd_same]; exact hfl, hnf2.mono (fun b hb => by
          rcases hb.2 with h1 | ⟨p, hp, hpg⟩
          · exact ⟨.inr ⟨h1, hb.1⟩, .inl (Nat.le_trans hbase h1)⟩
          · obtain ⟨q, hq, hqe⟩ := hF.pair p hp
            rw [← hqe] at hpg
            exact absurd hb.1 (hE.nstF.sep q (hE.allF q hq) b hpg))⟩ (fun g hg => hE.notB hF hwn hnq' hg) (hE.nstF.turn (by simp) trivial (fun q => q.elim)) (hE.memF.kill n) (fun q hq => by
          have hqn : q ≠ n := fun e => by subst e; rw [upd_same] at hq; exact hq
          rw [upd_other _ _ hqn] at hq
          exact hq) (fun p hp => by
          have hpn : p ≠ n := fun e => by
            subst e
            rcases hE.boxF p hp with h1 | h1
            · rw [hrow] at h1; exact h1
            · exact hnq' h1
          rw [upd_other _ _ hpn]
          exact hE.boxF p hp) (fun p hp => by
          have hpn : p ≠ n := fun e => by subst e; exact hnq' hp
          rw [upd_other _ _ hpn]
          exact hE.allF p hp)
      refine ⟨_, hI.1, ⟨by rw [upd_same]; simp, by rw [upd_same]; exact hvv, hsl⟩, hI.2, Ext.kill _ _ _, rfl, fun m hm hmf => ?_, fun m hm => upd_other _ _ (by omega)⟩
      rw [upd_other _ _ (by omega)]; exact hmf
    · have hvv : v = .slice none 0 0 := hv
      have hI := hE.install hF (s := nm) (nm' := nm + 1) hs (by omega) (by omega) (e := .nrow t [] e) (v := .slice none 0 0) (by simp) (hpF' := hpF')
        ⟨[], by simp, .inl ⟨rfl, rfl⟩⟩ (fun g hg => by cases hg) ⟨[], ⟨by simp, .inl ⟨by rw [upd_same], rfl⟩⟩, rfl⟩ (fun g hg => by cases hg) hE.nstF hE.memF (fun q hq => hq) hE.boxF hE.allF
      refine ⟨_, hI.1, ⟨by rw [upd_same]; simp, by rw [upd_same]; exact hvv, none, 0, 0, hvv⟩, hI.2, .refl _ _, rfl, fun m hm hmf => ?_, fun m hm => upd_other _ _ (by omega)⟩
      rw [upd_other _ _ (by omega)]; exact hmf
  | exr t e =>
    have hq : (SC.sl nm, nm + 1, upd hpc nm (.ex t b e)) = (sc, nm', hpc') := hq
    simp only [Prod.mk.injEq] at hq
    obtain ⟨rfl, rfl, rfl⟩ := hq
    have htop' : nm + 1 ≤ F.top := htop
    have hs : hpc nm = .free := hE.free nm (Nat.le_refl _) (by omega)
    rcases exC_exr h with ⟨n, rfl, ⟨e', hrow⟩, rfl, hnq⟩ | ⟨rfl, rfl, rfl⟩
    · obtain ⟨hnf, hvv, hsl⟩ := hv
      have hent := hE.memF.ent n
      have hown : EntRel F.base (fun _ => .free) F.νF F.wF (.ex t b e) (F.νF n) := by
        rcases hrow with hrow | hrow
        · rw [hrow] at hent
          have hent : F.wF.ownsRow 0 e' t.size (F.νF n) b.length (t.flat b) := hent
          rcases hent.2 with ⟨h1, h2⟩ | ⟨g, cap, cur, h1, hbg, hheap, hnc, hcm, hcs, htake⟩
          · exact .inl ⟨h1, List.length_eq_zero_iff.1 h2⟩
          · refine .inr ⟨g, 0, cap, cur, e', (0, 0), h1, hnc, by omega, hheap, ?_, .inl (Nat.le_refl _), fun j u hu => ?_⟩
            · rw [hcs, Nat.zero_add]
              exact Nat.mul_le_mul_right _ hnc
            · rw [Nat.zero_add]
              rw [← htake, List.getElem?_take] at hu
              split at hu
              · simpa using hu
              · cases hu
        · rw [hrow] at hent
          exact hent
      have hbase : F.base ≤ F.w.heap.size := hF.mem.fr.bs
      have hwn : wrE (hpF n) := by rcases hrow with hrow | hrow <;> (rw [hrow]; trivial)
      have hnq' : n ∉ F.qs := fun hin => hnq (hqs n hin)
      have hblk : ∀ g, blk (F.νF n) = some g → ¬ F.G' g ∧ F.w.heap.size ≤ g := fun g hg => hE.fresh hF hwn hnq' hg
      have hI := hE.install hF (s := nm) (nm' := nm + 1) hs (by omega) (by omega) (e := .ex t b e) (v := F.νF n) (by simp) (hpF' := upd hpF n .dead)
        hown (fun g hg => by
          have hG : ¬ F.G' g := (hblk g hg).1
          refine ⟨hG, by have := (hblk g hg).2; omega, fun m hm => hE.cross n hwn g hg hG m hm, fun q hq hc => ?_⟩
          have hqn : q ≠ n := fun e => by subst e; rw [upd_same] at hq; exact hq
          rw [upd_other _ _ hqn] at hq
          exact hE.memF.sep n q (fun e => hqn e.symm) hwn hq.lv g hg hc) trivial (fun g hg => hE.notB hF hwn hnq' hg) (hE.nstF.turn (by simp) trivial (fun q => q.elim)) (hE.memF.kill n) (fun q hq => by
          have hqn : q ≠ n := fun e => by subst e; rw [upd_same] at hq; exact hq
          rw [upd_other _ _ hqn] at hq
          exact hq) (fun p hp => by
          have hpn : p ≠ n := fun e => by
            subst e
            rcases hE.boxF p hp with h1 | h1
            · rcases hrow with hrow | hrow <;> (rw [hrow] at h1; exact h1)
            · exact hnq' h1
          rw [upd_other _ _ hpn]
          exact hE.boxF p hp) (fun p hp => by
          have hpn : p ≠ n := fun e => by subst e; exact hnq' hp
          rw [upd_other _ _ hpn]
          exact hE.allF p hp)
      refine ⟨_, hI.1, ⟨by rw [upd_same]; simp, by rw [upd_same]; exact hvv, hsl⟩, hI.2, Ext.kill _ _ _, rfl, fun m hm hmf => ?_, fun m hm => upd_other _ _ (by omega)⟩
      rw [upd_other _ _ (by omega)]; exact hmf
    · have hvv : v = .slice none 0 0 := hv
      have hI := hE.install hF (s := nm) (nm' := nm + 1) hs (by omega) (by omega) (e := .ex t [] e) (v := .slice none 0 0) (by simp) (hpF' := hpF')
        (.inl ⟨rfl, rfl⟩) (fun g hg => by cases hg) trivial (fun g hg => by cases hg) hE.nstF hE.memF (fun q hq => hq) hE.boxF hE.allF
      refine ⟨_, hI.1, ⟨by rw [upd_same]; simp, by rw [upd_same]; exact hvv, none, 0, 0, hvv⟩, hI.2, .refl _ _, rfl, fun m hm hmf => ?_, fun m hm => upd_other _ _ (by omega)⟩
      rw [upd_other _ _ (by omega)]; exact hmf
end
end Go.Sx
