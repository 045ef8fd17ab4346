/- Numbers, texts, slices: what one operation does. -/
import Derived.Test.YtkcfdkfdmglamaaSyE
import Derived.Laws.Strings
import Derived.Laws.Small
set_option linter.unusedVariables false
set_option linter.unusedSimpArgs false
namespace Go.Sx
open Go.RowKit (wrap64)

theorem bytes_eq (a b : ByteArray) : (a.toList == b.toList) = decide (a = b) := by
  rw [ByteArray.toList_eq, ByteArray.toList_eq]
  obtain ⟨⟨x⟩⟩ := a
  obtain ⟨⟨y⟩⟩ := b
  rw [Bool.eq_iff_iff]
  simp
theorem beq_dec (a b : Int) : (a == b) = decide (a = b) := rfl
theorem VRel.int {hp : Hp} {ν : Nat → Value} {k : IntKind} {n : Int} {v : Value} (h : VRel hp ν (.a false [.int k n]) v) : v = .int k n := by
  obtain ⟨z, hz, h⟩ := h; injection hz with hz _; subst hz; exact h
theorem VRel.str {hp : Hp} {ν : Nat → Value} {s : ByteArray} {v : Value} (h : VRel hp ν (.a false [.str s]) v) : v = .string s := by
  obtain ⟨z, hz, h⟩ := h; injection hz with hz _; subst hz; exact h
theorem VRel.bool {hp : Hp} {ν : Nat → Value} {s : SB} {v : Value} (h : VRel hp ν (.a false [.bool s]) v) : v = .bool s.b := by
  obtain ⟨z, hz, h⟩ := h; injection hz with hz _; subst hz; exact h
theorem VRel.nils {hp : Hp} {ν : Nat → Value} {v : Value} (h : VRel hp ν (.a false [.nils]) v) : v = .slice none 0 0 := by
  obtain ⟨z, hz, h⟩ := h; injection hz with hz _; subst hz; exact h
theorem VRel.sl {hp : Hp} {ν : Nat → Value} {n : Nat} {v : Value} (h : VRel hp ν (.a false [.sl n]) v) : hp n ≠ .free ∧ v = ν n ∧ ∃ A l c, v = .slice A l c := by
  obtain ⟨z, hz, h⟩ := h; injection hz with hz _; subst hz; exact h
section
variable {P : Program} {base : Nat} {G : Nat → Prop} {w0 w : World} {hp : Hp} {ν : Nat → Value} {ρ : Operand → Value} {e : Operand → SV} {o : Oper}
theorem eqGuard_int (op : BinOp) (t : TypeId) (x y : Operand) (k k' : IntKind) (a b : Int) : (eqGuard op t x y (.int k a) (.int k' b)).run P w = .ok () w := by
  cases op <;> simp [eqGuard]
theorem eqGuard_str (op : BinOp) (t : TypeId) (x y : Operand) (a b : ByteArray) : (eqGuard op t x y (.string a) (.string b)).run P w = .ok () w := by
  cases op <;> simp [eqGuard]
theorem eqGuard_bool (op : BinOp) (t : TypeId) (x y : Operand) (a b : Bool) : (eqGuard op t x y (.bool a) (.bool b)).run P w = .ok () w := by
  cases op <;> simp [eqGuard]
theorem binA_run {op : BinOp} {t : TypeId} {x y : SV} {vx vy : Value} {c : List SB} {v : SC} (h : binA P op t x y = some (c, v)) (hx : VRel hp ν x vx) (hy : VRel hp ν y vy) (hc : ∀ s ∈ c, s.b = true) (px py : Operand) :
    ∃ u, (eqGuard op t px py vx vy).run P w = .ok () w ∧ (binOp op t vx vy).run P w = .ok u w ∧ CRel hp ν v u := by
  unfold binA at h
  split at h
  · rename_i k a k' b
    obtain rfl := hx.int
    obtain rfl := hy.int
    cases op
    case shl =>
      simp only [Option.some.injEq, Prod.mk.injEq] at h
      obtain ⟨rfl, rfl⟩ := h
      have h0 := hc (.le 0 b) (by simp)
      simp only [SB.b, decide_eq_true_eq] at h0
      refine ⟨_, eqGuard_int .., ?_, rfl⟩
      have : ¬ b < 0 := by omega
      simp [binOp, Op.shift, this, wr_eq]
    case shr =>
      simp only [Option.some.injEq, Prod.mk.injEq] at h
      obtain ⟨rfl, rfl⟩ := h
      have h0 := hc (.le 0 b) (by simp)
      simp only [SB.b, decide_eq_true_eq] at h0
      refine ⟨_, eqGuard_int .., ?_, rfl⟩
      have : ¬ b < 0 := by omega
      simp [binOp, Op.shift, this]
    all_goals
      cases hk : keq k k' with
      | false => rw [hk] at h; simp at h
      | true =>
        rw [hk] at h
        have := keq_eq hk
        subst this
        simp only [cnd_true, Option.some.injEq, Prod.mk.injEq] at h
        obtain ⟨rfl, rfl⟩ := h
        refine ⟨_, eqGuard_int .., ?_, rfl⟩
        first
          | (simp [binOp, Op.intArith, Op.intCmp, Op.intBits, wr_eq, iand, ior, ixor, iandn, SB.b, bne]; done)
          | (simp [binOp]; rfl)
          | (have h0 := hc (.not (.eq b 0)) (by simp)
             simp only [SB.b, Bool.not_eq_true', decide_eq_false_iff_not] at h0
             simp [binOp, Op.intDiv, wr_eq, h0]
             done)
  · rename_i a b
    obtain rfl := hx.str
    obtain rfl := hy.str
    split at h
    · simp only [Option.some.injEq, Prod.mk.injEq] at h
      obtain ⟨rfl, rfl⟩ := h
      have h0 := hc (.le ((a.size + b.size : Nat) : Int) 9223372036854775807) (by simp)
      simp only [SB.b, decide_eq_true_eq] at h0
      refine ⟨_, eqGuard_str .., ?_, rfl⟩
      have : ¬ (9223372036854775807 : Int) < a.size + b.size := by omega
      simp [binOp, Op.stringOp, IntKind.max, IntKind.signed, IntKind.bits, this]
    · simp only [Option.some.injEq, Prod.mk.injEq] at h
      obtain ⟨rfl, rfl⟩ := h
      refine ⟨_, eqGuard_str .., ?_, rfl⟩
      simp only [binOp, Op.stringOp, bytes_eq, SB.b]
      rfl
    · simp only [Option.some.injEq, Prod.mk.injEq] at h
      obtain ⟨rfl, rfl⟩ := h
      refine ⟨_, eqGuard_str .., ?_, rfl⟩
      simp only [binOp, Op.stringOp, bytes_eq, SB.b]
      rfl
    · simp at h
  · rename_i a b
    obtain rfl := hx.bool
    obtain rfl := hy.bool
    split at h
    · rename_i hu
      simp only [Option.some.injEq, Prod.mk.injEq] at h
      obtain ⟨rfl, rfl⟩ := h
      refine ⟨_, eqGuard_bool .., ?_, rfl⟩
      have he := run_equal_bool (P := P) w t a.b b.b hu
      simp [binOp, he, SB.b]
    · rename_i hu
      simp only [Option.some.injEq, Prod.mk.injEq] at h
      obtain ⟨rfl, rfl⟩ := h
      refine ⟨_, eqGuard_bool .., ?_, rfl⟩
      have he := run_equal_bool (P := P) w t a.b b.b hu
      simp [binOp, he, SB.b]
    · simp at h
  · simp at h
/-! ### structs: == -/
theorem eqCell_run {D : Nat} {t : TypeId} {x y : SC} {vx vy : Value} {s : SB} (h : eqCell x y = some s) (hx : CRel hp ν x vx) (hy : CRel hp ν y vy)
    (hu : (∀ k n, x = .int k n → ∃ k', P.underlying t = some (.int k')) ∧ (∀ b, x = .bool b → P.underlying t = some .bool) ∧ (∀ b, x = .str b → P.underlying t = some .string)) :
    (Op.equalIn (D + 1) t vx vy).run P w = .ok s.b w := by
  unfold eqCell at h
  split at h
  · rename_i k a k' b
    cases hk : keq k k' with
    | false => rw [hk] at h; simp at h
    | true =>
      rw [hk] at h
      have := keq_eq hk
      subst this
      simp only [cnd_true, Option.some.injEq] at h
      subst h
      cases hx
      cases hy
      obtain ⟨k', hu'⟩ := hu.1 _ _ rfl
      simp [Op.equalIn, run_underlying hu', SB.b]
      rfl
  · simp only [Option.some.injEq] at h
    subst h
    cases hx
    cases hy
    simp [Op.equalIn, run_underlying (hu.2.1 _ rfl), SB.b]
  · simp only [Option.some.injEq] at h
    subst h
    cases hx
    cases hy
    have : ∀ a b : ByteArray, (a == b) = decide (a = b) := fun a b => by rw [beq_toListBytes, bytes_eq]
    simp [Op.equalIn, run_underlying (hu.2.2 _ rfl), SB.b, this]
  · simp at h
/-- Cells of a type, as one value. -/
def ofCells (P : Program) (t : TypeId) (vs : List Value) : Value :=
  match P.underlying t with
  | some (.struct _) => .agg vs.toArray
  | some (.array _ _) => .agg vs.toArray
  | _ => vs.headD .nilFunc
theorem part_cells {ft : TypeId} {vs : List Value} {off n : Nat} (hs : szOf P ft = some n) (hle : off + n ≤ vs.length) (hu : (P.underlying ft).isSome = true) (h1 : (∀ fs, P.underlying ft ≠ some (.struct fs)) → (∀ m e, P.underlying ft ≠ some (.array m e)) → 0 < n) :
    (part ft vs.toArray off).run P w = .ok (ofCells P ft ((vs.drop off).take n)) w := by
  obtain ⟨i, hi, hn⟩ := szOf_some hs
  have hext : vs.toArray.extract off (off + n) = ((vs.drop off).take n).toArray := by
    apply Array.ext'
    simp [List.extract_eq_take_drop]
  cases hd : P.underlying ft with
  | none => rw [hd] at hu; simp at hu
  | some d =>
    have plain : ∀ (_ : (isAgg ft).run P w = .ok false w) (_ : 0 < n), (part ft vs.toArray off).run P w = .ok (((vs.drop off).take n).headD .nilFunc) w := by
      intro ha h0
      have hlt : off < vs.length := by omega
      have hget : vs.toArray[off]? = some vs[off] := by simp [hlt]
      have hhead : ((vs.drop off).take n).headD .nilFunc = vs[off] := by
        rw [List.drop_eq_getElem_cons hlt]
        cases n with
        | zero => omega
        | succ n => rfl
      rw [hhead]
      simp [part, ha, hget]
    have hrun : ∀ (b : Bool), (match d with | .struct _ => true | .array _ _ => true | _ => false) = b → (isAgg ft).run P w = .ok b w := by
      intro b hb
      rw [isAgg, Sem.run_bind, run_underlying hd]
      cases d <;> simp_all
    unfold ofCells
    rw [hd]
    cases d <;> first
      | (have ha := hrun true rfl
         simp [part, ha, sizeOf, typeInfo, hi, hn, hext]
         done)
      | (exact plain (hrun false rfl) (h1 (by rw [hd]; simp) (by rw [hd]; simp)))
theorem eqFs_run {f : TypeId → List SC → List SC → Option SB} {D : Nat}
    (ih : ∀ (t : TypeId) (xs ys : List SC) (vs us : List Value) (s : SB), f t xs ys = some s → CsRel hp ν xs vs → CsRel hp ν ys us →
      ((P.underlying t).isSome = true ∧ ((∀ fs, P.underlying t ≠ some (.struct fs)) → (∀ m e, P.underlying t ≠ some (.array m e)) → 0 < vs.length)) ∧ (Op.equalIn D t (ofCells P t vs) (ofCells P t us)).run P w = .ok s.b w)
    {xs ys : List SC} {vs us : List Value} (hx : CsRel hp ν xs vs) (hy : CsRel hp ν ys us) : ∀ (fs : List Field) (s : SB), eqFs f P xs ys fs = some s → (Op.eqFields D vs.toArray us.toArray fs).run P w = .ok s.b w
  | [], s, h => by simp [eqFs] at h
  | [x], s, h => by
    simp only [eqFs] at h
    split at h
    · rename_i n hs
      cases hn : (x.name == "_") with
      | true => rw [hn] at h; simp at h
      | false =>
        rw [hn] at h
        simp only [cnd_false] at h
        cases hc : (Nat.ble (x.offset + n) xs.length && Nat.ble (x.offset + n) ys.length) with
        | false => rw [hc] at h; simp at h
        | true =>
          rw [hc] at h
          simp only [cnd_true] at h
          rw [Bool.and_eq_true] at hc
          have c1 := Nat.le_of_ble_eq_true hc.1
          have c2 := Nat.le_of_ble_eq_true hc.2
          have l1 := hx.len
          have l2 := hy.len
          obtain ⟨⟨p1, p2⟩, he⟩ := ih x.type _ _ _ _ s h ((hx.drop x.offset).take n) ((hy.drop x.offset).take n)
          have lv : ((vs.drop x.offset).take n).length = n := by simp; omega
          rw [lv] at p2
          have ha := part_cells (w := w) (vs := vs) (off := x.offset) hs (by omega) p1 p2
          have hb := part_cells (w := w) (vs := us) (off := x.offset) hs (by omega) p1 p2
          have hn' : x.name ≠ "_" := by simpa using hn
          simp only [Op.eqFields, if_pos hn', Sem.run_bind, ha, hb, he, Result.andThen_ok]
          cases s.b <;> simp
    · simp at h
  | x :: y :: r, s, h => by
    simp only [eqFs] at h
    split at h
    · rename_i n hs
      cases hn : (x.name == "_") with
      | true => rw [hn] at h; simp at h
      | false =>
        rw [hn] at h
        simp only [cnd_false] at h
        cases hc : (Nat.ble (x.offset + n) xs.length && Nat.ble (x.offset + n) ys.length) with
        | false => rw [hc] at h; simp at h
        | true =>
          rw [hc] at h
          simp only [cnd_true] at h
          split at h
          · rename_i s1 s2 h1 h2
            simp only [Option.some.injEq] at h
            subst h
            rw [Bool.and_eq_true] at hc
            have c1 := Nat.le_of_ble_eq_true hc.1
            have c2 := Nat.le_of_ble_eq_true hc.2
            have l1 := hx.len
            have l2 := hy.len
            obtain ⟨⟨p1, p2⟩, he⟩ := ih x.type _ _ _ _ s1 h1 ((hx.drop x.offset).take n) ((hy.drop x.offset).take n)
            have lv : ((vs.drop x.offset).take n).length = n := by simp; omega
            rw [lv] at p2
            have ha := part_cells (w := w) (vs := vs) (off := x.offset) hs (by omega) p1 p2
            have hb := part_cells (w := w) (vs := us) (off := x.offset) hs (by omega) p1 p2
            have hn' : x.name ≠ "_" := by simpa using hn
            have hr := eqFs_run ih hx hy (y :: r) s2 h2
            rw [Op.eqFields]
            simp only [if_pos hn', Sem.run_bind, ha, hb, he, Result.andThen_ok, SB.b]
            cases hsb : s1.b
            · simp
            · simpa using hr
          · simp at h
    · simp at h
theorem eqS_run : ∀ (d D : Nat) (t : TypeId) (xs ys : List SC) (vs us : List Value) (s : SB), eqS P d t xs ys = some s → CsRel hp ν xs vs → CsRel hp ν ys us →
    ((P.underlying t).isSome = true ∧ ((∀ fs, P.underlying t ≠ some (.struct fs)) → (∀ m e, P.underlying t ≠ some (.array m e)) → 0 < vs.length)) ∧ (Op.equalIn (D + d) t (ofCells P t vs) (ofCells P t us)).run P w = .ok s.b w
  | 0, _, _, _, _, _, _, _, h, _, _ => by simp [eqS] at h
  | d + 1, D, t, xs, ys, vs, us, s, h, hx, hy => by
    simp only [eqS] at h
    split at h
    · rename_i fs hu
      cases hp' : P.stoodInHeld t with
      | true => rw [hp'] at h; simp at h
      | false =>
        rw [hp'] at h
        simp only [cnd_false] at h
        have hf : P.fieldsOf t = fs := by simp [Program.fieldsOf, hu]
        refine ⟨⟨by rw [hu]; rfl, fun hh => absurd hu (hh fs)⟩, ?_⟩
        have := eqFs_run (w := w) (D := D + d) (fun t xs ys vs us s h hx hy => eqS_run d D t xs ys vs us s h hx hy) hx hy fs.toList s h
        unfold ofCells
        rw [hu]
        show (Op.equalIn ((D + d) + 1) t (.agg vs.toArray) (.agg us.toArray)).run P w = _
        rw [run_equalIn_struct (P := P) w (D + d) t _ _ (by rw [hf]; exact hu) hp', hf]
        exact this
    · rename_i k hu
      split at h
      · rename_i k1 a k2 b
        match vs, us, hx, hy with
        | [v], [u], hx, hy =>
          refine ⟨⟨by rw [hu]; rfl, fun _ _ => by simp⟩, ?_⟩
          have := eqCell_run (P := P) (w := w) (D := D + d) (t := t) h hx.1 hy.1 ⟨fun _ _ _ => ⟨_, hu⟩, fun _ hh => (nomatch hh), fun _ hh => (nomatch hh)⟩
          show (Op.equalIn ((D + d) + 1) t _ _).run P w = _
          simpa [ofCells, hu] using this
        | [], _, hx, _ => exact hx.elim
        | _ :: _ :: _, _, hx, _ => exact hx.2.elim
        | _, [], _, hy => exact hy.elim
        | _, _ :: _ :: _, _, hy => exact hy.2.elim
      · simp at h
    · rename_i hu
      split at h
      · rename_i a b
        match vs, us, hx, hy with
        | [v], [u], hx, hy =>
          refine ⟨⟨by rw [hu]; rfl, fun _ _ => by simp⟩, ?_⟩
          have := eqCell_run (P := P) (w := w) (D := D + d) (t := t) h hx.1 hy.1 ⟨fun _ _ hh => (nomatch hh), fun _ _ => hu, fun _ hh => (nomatch hh)⟩
          show (Op.equalIn ((D + d) + 1) t _ _).run P w = _
          simpa [ofCells, hu] using this
        | [], _, hx, _ => exact hx.elim
        | _ :: _ :: _, _, hx, _ => exact hx.2.elim
        | _, [], _, hy => exact hy.elim
        | _, _ :: _ :: _, _, hy => exact hy.2.elim
      · simp at h
    · rename_i hu
      split at h
      · rename_i a b
        match vs, us, hx, hy with
        | [v], [u], hx, hy =>
          refine ⟨⟨by rw [hu]; rfl, fun _ _ => by simp⟩, ?_⟩
          have := eqCell_run (P := P) (w := w) (D := D + d) (t := t) h hx.1 hy.1 ⟨fun _ _ hh => (nomatch hh), fun _ hh => (nomatch hh), fun _ _ => hu⟩
          show (Op.equalIn ((D + d) + 1) t _ _).run P w = _
          simpa [ofCells, hu] using this
        | [], _, hx, _ => exact hx.elim
        | _ :: _ :: _, _, hx, _ => exact hx.2.elim
        | _, [], _, hy => exact hy.elim
        | _, _ :: _ :: _, _, hy => exact hy.2.elim
      · simp at h
    · simp at h
theorem eqA_run {t : TypeId} {x y : SV} {vx vy : Value} {s : SB} (h : eqA P t x y = some s) (hx : VRel hp ν x vx) (hy : VRel hp ν y vy) (px py : Operand) :
    (∀ op, (eqGuard op t px py vx vy).run P w = .ok () w) ∧ (binOp .eql t vx vy).run P w = .ok (.bool s.b) w ∧ (binOp .neq t vx vy).run P w = .ok (.bool (!s.b)) w := by
  unfold eqA at h
  split at h
  · rename_i xs ys
    obtain ⟨vs, rfl, hx⟩ := hx
    obtain ⟨us, rfl, hy⟩ := hy
    split at h
    · rename_i fs hu
      cases hg : P.eqGuardType P.depth t with
      | true => rw [hg] at h; simp at h
      | false =>
        rw [hg] at h
        simp only [cnd_false] at h
        have := (eqS_run (w := w) 5 9995 t xs ys _ _ s h hx hy).2
        unfold ofCells at this
        rw [hu] at this
        simp only [Array.toArray_toList] at this
        have he : (Op.equal t (.agg vs) (.agg us)).run P w = .ok s.b w := this
        refine ⟨fun op => ?_, ?_, ?_⟩
        · cases op <;> simp [eqGuard, hg]
        · simp [binOp, he]
        · simp [binOp, he]
    · simp at h
  · simp at h
theorem good_bin {op : BinOp} {t t' : TypeId} {x y : Operand} {cs : List SB} {v : SC} (ho : o.op = .binOp op t x y t') (h : binA P op t (e x) (e y) = some (cs, v)) (hc : ∀ s ∈ cs, s.b = true)
    (he : ∀ x, VRel hp ν (e x) (ρ x)) (hm : Mem base G w0 w hp ν) : Good P base G w0 hp ν ρ o w (one v) hp := by
  obtain ⟨u, h1, h2, h3⟩ := binA_run (w := w) h (he x) (he y) hc x y
  refine good_same (u := u) ?_ ⟨v, rfl, h3⟩ hm
  unfold execOp
  rw [ho]
  simp [h1, h2]
theorem good_eq {op : BinOp} {t t' : TypeId} {x y : Operand} {s : SB} (ho : o.op = .binOp op t x y t') (h : eqA P t (e x) (e y) = some s) (he : ∀ x, VRel hp ν (e x) (ρ x)) (hm : Mem base G w0 w hp ν) :
    (op = .eql → Good P base G w0 hp ν ρ o w (one (.bool s)) hp) ∧ (op = .neq → Good P base G w0 hp ν ρ o w (one (.bool (.not s))) hp) := by
  obtain ⟨h1, h2, h3⟩ := eqA_run (w := w) h (he x) (he y) x y
  constructor
  · rintro rfl
    refine good_same (u := .bool s.b) ?_ ⟨_, rfl, rfl⟩ hm
    unfold execOp
    rw [ho]
    simp [h1, h2]
  · rintro rfl
    refine good_same (u := .bool (!s.b)) ?_ ⟨_, rfl, rfl⟩ hm
    unfold execOp
    rw [ho]
    simp [h1, h3]
theorem good_un {op : UnOp} {t : TypeId} {x : Operand} {v : SC} (ho : o.op = .unOp op t x) (h : unA op (e x) = some v) (he : ∀ x, VRel hp ν (e x) (ρ x)) (hm : Mem base G w0 w hp ν) : Good P base G w0 hp ν ρ o w (one v) hp := by
  have hx := he x
  unfold unA at h
  split at h
  · rename_i s hex
    rw [hex] at hx
    obtain ⟨z, hz, hxv⟩ := hx
    injection hz with hz _
    subst hz
    simp only [Option.some.injEq] at h
    subst h
    refine good_same (u := .bool (!s.b)) ?_ ⟨_, rfl, rfl⟩ hm
    unfold execOp
    rw [ho]
    have hxv' : ρ x = .bool s.b := hxv
    simp [hxv', Op.unary]
  · rename_i k a hex
    rw [hex] at hx
    obtain ⟨z, hz, hxv⟩ := hx
    injection hz with hz _
    subst hz
    simp only [Option.some.injEq] at h
    subst h
    refine good_same (u := .int k (wr k (0 - a))) ?_ ⟨_, rfl, rfl⟩ hm
    unfold execOp
    rw [ho]
    have hxv' : ρ x = .int k a := hxv
    simp [hxv', Op.unary, Op.intArith, wr_eq]
  · simp at h
end
end Go.Sx
