/- A function keeps its contract. -/
import Derived.Test.YtkcfdkfdmglamaaSyQ
set_option linter.unusedVariables false
set_option linter.unusedSimpArgs false
namespace Go.Sx
section
variable {P : Program} {base : Nat} {G : Nat → Prop} {w0 w : World} {hp hp0 : Hp} {ν ν0 : Nat → Value}
theorem beg0 (w : World) (hp : Hp) (ν : Nat → Value) (G' : Nat → Prop) (H : List Nat) : Beg w hp ν G' H 0 (fun _ => .free) (fun _ => .nilFunc) [] :=
  ⟨⟨fun _ => trivial, fun _ _ _ h => h.elim, fun _ h => h.elim, ⟨rfl, rfl, rfl, Nat.le_refl _, Nat.le_refl _, fun _ _ _ => rfl⟩⟩, fun _ _ => rfl, fun _ h => h.elim, fun _ h => by cases h⟩
theorem vs_len : ∀ {xs : List SV} {vs : List Value}, VsRel hp ν xs vs → xs.length = vs.length
  | [], [], _ => rfl
  | _ :: _, _ :: _, h => by simp [vs_len h.2]
  | [], _ :: _, h => h.elim
  | _ :: _, [], h => h.elim
theorem vs_get : ∀ {xs : List SV} {vs : List Value} {i : Nat}, VsRel hp ν xs vs → i < vs.length → ∃ x v, xs[i]? = some x ∧ vs[i]? = some v ∧ VRel hp ν x v
  | x :: xs, v :: vs, 0, h, _ => ⟨x, v, rfl, rfl, h.1⟩
  | x :: xs, v :: vs, i + 1, h, hi => by
    obtain ⟨x', v', h1, h2, h3⟩ := vs_get (i := i) h.2 (by simpa using hi)
    exact ⟨x', v', by simpa using h1, by simpa using h2, h3⟩
  | [], [], _, _, hi => by simp at hi
  | [], _ :: _, _, h, _ => h.elim
  | _ :: _, [], _, h, _ => h.elim
theorem cs_getD {xs : List SC} {vs : List Value} (h : CsRel hp ν xs vs) {j : Nat} {v : Value} (hv : vs[j]? = some v) (h1 : v.oneCell' = true) : CRel hp ν (xs.getD j .any) v := by
  cases hx : xs[j]? with
  | none => rw [List.getD_eq_getElem?_getD, hx]; exact h1
  | some x =>
    obtain ⟨v', hv', hr⟩ := h.get hx
    rw [hv] at hv'
    injection hv' with hv'
    subst hv'
    rw [List.getD_eq_getElem?_getD, hx]
    exact hr
/-- A cell of an argument, on both sides. -/
theorem cell_both {xs ys : List SV} {vs : List Value} (hx : VsRel hp0 ν0 xs vs) (hy : VsRel hp ν ys vs) {i j q : Nat} (h : cellOf xs i j = .sl q) : CRel hp ν (cellOf ys i j) (ν0 q) ∧ hp0 q ≠ .free := by
  unfold cellOf at h
  cases hxi : xs[i]? with
  | none => rw [hxi] at h; cases h
  | some x =>
    rw [hxi] at h
    have hi : i < vs.length := by rw [← vs_len hx]; exact (List.getElem?_eq_some_iff.1 hxi).1
    obtain ⟨x', v, h1, h2, h3⟩ := vs_get hx hi
    rw [hxi] at h1
    injection h1 with h1
    subst h1
    cases x with
    | any => cases h
    | tup _ => cases h
    | a g cs =>
      simp only [] at h
      have hcs : CsRel hp0 ν0 cs v.cells.toList := ARel.cells h3
      have hj : cs[j]? = some (.sl q) := by
        rw [List.getD_eq_getElem?_getD] at h
        cases hc : cs[j]? with
        | none => rw [hc] at h; cases h
        | some y => rw [hc] at h; have h : y = .sl q := h; rw [h]
      obtain ⟨u, hu, hur⟩ := hcs.get hj
      obtain ⟨hnf, hue, A, l, c, hus⟩ := hur
      have hone : u.oneCell' = true := by rw [hus]; rfl
      refine ⟨?_, hnf⟩
      rw [← hue]
      obtain ⟨y, v', h4, h5, h6⟩ := vs_get hy hi
      rw [h2] at h5
      injection h5 with h5
      subst h5
      unfold cellOf
      rw [h4]
      cases y with
      | any => exact hone
      | tup _ => exact hone
      | a g' cs' => exact cs_getD (ARel.cells h6) hu hone
theorem iA_ptr (ks : List CK) (t : TypeId) (x : CKs ks) (nm : Nat) (hp : Hp) : (iA (.ptr ks t) x nm hp).1 = one (.ptr nm 0) := rfl
theorem pair_args : ∀ (ks : List AK) (x : AKs ks) (sas : List SV) (vs : List Value) (nm : Nat) (hpc : Hp), mAs hp ks sas = some x → VsRel hp ν sas vs → VsRel hp0 ν0 (iAs ks x nm hpc).1 vs → PairP ν0 ν (ptrs ks sas) (ptrs ks (iAs ks x nm hpc).1)
  | [], x, sas, vs, nm, hpc, h, hv, hv0 => by
    match sas, vs, hv with
    | [], [], _ => trivial
    | _ :: _, _, _ => exact no_some (α := Unit) h
  | [k], x, sas, vs, nm, hpc, h, hv, hv0 => by
    match sas, vs, hv with
    | [sa], [v], hv =>
      have hh : mA hp k sa = some x := h
      have hq : (iAs [k] x nm hpc).1 = [(iA k x nm hpc).1] := rfl
      rw [hq] at hv0 ⊢
      exact pair_arg k x sa v nm hpc hh hv.1 hv0.1
    | [], _, _ => exact no_some (α := k.T) h
    | _ :: _ :: _, _, _ => exact no_some (α := k.T) h
    | [_], [], hv => exact hv.elim
    | [_], _ :: _ :: _, hv => exact hv.2.elim
  | k :: k' :: r, x, sas, vs, nm, hpc, h, hv, hv0 => by
    match sas, vs, hv with
    | sa :: sar, v :: vr, hv =>
      replace h : ((match mA hp k sa, mAs hp (k' :: r) sar with
        | some a, some b => some (a, b)
        | _, _ => none) : Option (k.T × AKs (k' :: r))) = some x := h
      split at h
      · rename_i a b ha hb
        have h : some (a, b) = some x := h
        injection h with h
        subst h
        have hq : (iAs (k :: k' :: r) (a, b) nm hpc).1 = (iA k a nm hpc).1 :: (iAs (k' :: r) b (iA k a nm hpc).2.1 (iA k a nm hpc).2.2).1 := rfl
        rw [hq] at hv0 ⊢
        rw [ptrs_cons k (k' :: r) sa sar, ptrs_cons k (k' :: r) (iA k a nm hpc).1]
        exact pair_app (pair_arg k a sa v nm hpc ha hv.1 hv0.1) (pair_args (k' :: r) b sar vr _ _ hb hv.2 hv0.2)
      · exact no_some (α := k.T × AKs (k' :: r)) h
    | [], _, _ => exact no_some (α := k.T × AKs (k' :: r)) h
    | _ :: _, [], hv => exact hv.elim
where
  pair_app {l m l' m' : List Nat} : PairP ν0 ν l m → PairP ν0 ν l' m' → PairP ν0 ν (l ++ l') (m ++ m') := by
    intro h k
    match l, m, h with
    | [], [], _ => exact k
    | _ :: _, _ :: _, h => exact ⟨h.1, pair_app h.2 k⟩
  pair_arg (k : AK) (x : k.T) (sa : SV) (v : Value) (nm : Nat) (hpc : Hp) (h : mA hp k sa = some x) (hv : VRel hp ν sa v) (hv0 : VRel hp0 ν0 (iA k x nm hpc).1 v) : PairP ν0 ν (ptrs [k] [sa]) (ptrs [k] [(iA k x nm hpc).1]) := by
    cases k with
    | c k =>
      obtain ⟨y, rfl, _⟩ := mA_c h
      exact trivial
    | agg ks =>
      obtain ⟨cs, rfl, _⟩ := mA_agg h
      exact trivial
    | ptr ks t =>
      obtain ⟨n, cs, rfl, _, _⟩ := mA_ptr h
      have hv0 : VRel hp0 ν0 (.a false [.ptr nm 0]) v := hv0
      show PairP ν0 ν [n] [nm]
      obtain ⟨_, g, hg, hvv⟩ := hv.ptr
      obtain ⟨_, g', hg', hvv'⟩ := hv0.ptr
      rw [hvv] at hvv'
      simp only [Value.pointer.injEq, Option.some.injEq, Addr.mk.injEq, and_true] at hvv'
      subst hvv'
      exact ⟨hg'.trans hg.symm, trivial⟩
    | w g ks =>
      obtain ⟨cs, rfl, hw⟩ := mA_w h
      have hp1 : ptrs [AK.w g ks] [SV.a g cs] = rowsW ks cs := by
        show rowsW ks cs ++ [] = _
        rw [List.append_nil]
      have hp2 : ptrs [AK.w g ks] [(iA (.w g ks) x nm hpc).1] = rowsW ks (iWs ks x nm hpc).1 := by
        show rowsW ks (iWs ks x nm hpc).1 ++ [] = _
        rw [List.append_nil]
      rw [hp1, hp2]
      have hv0 : VRel hp0 ν0 (.a g (iWs ks x nm hpc).1) v := hv0
      exact pair_rows ks x cs v.cells.toList nm hpc hw (ARel.cells hv) (ARel.cells hv0)
  pair_rows : ∀ (ks : List WK) (x : WKs ks) (cs : List SC) (vs : List Value) (nm : Nat) (hpc : Hp), mWs hp ks cs = some x → CsRel hp ν cs vs → CsRel hp0 ν0 (iWs ks x nm hpc).1 vs → PairP ν0 ν (rowsW ks cs) (rowsW ks (iWs ks x nm hpc).1)
    | [], x, cs, vs, nm, hpc, h, hv, hv0 => by
      match cs, vs, hv with
      | [], [], _ => trivial
      | _ :: _, _, _ => exact no_some (α := Unit) h
    | [k], x, cs, vs, nm, hpc, h, hv, hv0 => by
      match cs, vs, hv with
      | [c], [v], hv =>
        have hq : (iWs [k] x nm hpc).1 = [(iW nm hpc k x).1] := rfl
        rw [hq] at hv0 ⊢
        exact pair_row k x c v nm hpc h hv.1 hv0.1
      | [], _, _ => exact no_some (α := k.T) h
      | _ :: _ :: _, _, _ => exact no_some (α := k.T) h
      | [_], [], hv => exact hv.elim
    | k :: k' :: r, x, cs, vs, nm, hpc, h, hv, hv0 => by
      match cs, vs, hv with
      | c :: cr, v :: vr, hv =>
        rw [mWs_cons] at h
        split at h
        · rename_i a b ha hb
          have h : some (a, b) = some x := h
          injection h with h
          subst h
          have hq : (iWs (k :: k' :: r) (a, b) nm hpc).1 = (iW nm hpc k a).1 :: (iWs (k' :: r) b (iW nm hpc k a).2.1 (iW nm hpc k a).2.2).1 := rfl
          rw [hq] at hv0 ⊢
          rw [rowsW_cons k (k' :: r) c cr, rowsW_cons k (k' :: r) (iW nm hpc k a).1]
          exact pair_app (pair_row k a c v nm hpc ha hv.1 hv0.1) (pair_rows (k' :: r) b cr vr _ _ hb hv.2 hv0.2)
        · exact no_some (α := k.T × WKs (k' :: r)) h
      | [], _, _ => exact no_some (α := k.T × WKs (k' :: r)) h
      | _ :: _, [], hv => exact hv.elim
  pair_row (k : WK) (x : k.T) (c : SC) (v : Value) (nm : Nat) (hpc : Hp) (h : mW hp k c = some x) (hv : CRel hp ν c v) (hv0 : CRel hp0 ν0 (iW nm hpc k x).1 v) : PairP ν0 ν (rowsW [k] [c]) (rowsW [k] [(iW nm hpc k x).1]) := by
    cases k with
    | c k => cases c <;> exact trivial
    | row t e =>
      obtain ⟨n, rfl, _⟩ := mW_row h
      have hv0 : CRel hp0 ν0 (.sl nm) v := hv0
      show PairP ν0 ν [n] [nm]
      obtain ⟨_, h1, _⟩ := hv
      obtain ⟨_, h2, _⟩ := hv0
      exact ⟨h2.symm.trans h1, trivial⟩
theorem pair_zip {l m : List Nat} : PairP ν0 ν l m → ∀ p q, (p, q) ∈ l.zip m → ν0 q = ν p := by
  intro h p q hpq
  match l, m, h with
  | [], [], _ => simp at hpq
  | a :: l, b :: m, h =>
    simp only [List.zip_cons_cons, List.mem_cons, Prod.mk.injEq] at hpq
    rcases hpq with ⟨rfl, rfl⟩ | hpq
    · exact h.1
    · exact pair_zip h.2 p q hpq
theorem pair_len {l m : List Nat} (h : PairP ν0 ν l m) : ∀ p, p ∈ l → ∃ q, (p, q) ∈ l.zip m := by
  intro p hp
  match l, m, h with
  | a :: l, b :: m, h =>
    cases hp with
    | head => exact ⟨b, by simp⟩
    | tail _ hp =>
      obtain ⟨q, hq⟩ := pair_len h.2 p hp
      exact ⟨q, by simp [hq]⟩
theorem freeN_some {nm : Nat} : ∀ {n : Nat}, freeN hp nm n = true → ∀ k, nm ≤ k → k < nm + n → hp k = .free
  | 0, _, k, h1, h2 => by omega
  | n + 1, h, k, h1, h2 => by
    simp only [freeN] at h
    cases hq : hp (nm + n) with
    | free =>
      rw [hq] at h
      by_cases hk : k = nm + n
      · subst hk; exact hq
      · exact freeN_some h k h1 (by omega)
    | _ => rw [hq] at h; cases h
theorem row_wr : ∀ (ks : List WK) (x : WKs ks) (cs : List SC), mWs hp ks cs = some x → ∀ p, p ∈ rowsW ks cs → wrE (hp p)
  | [], x, cs, h, p, hp' => by cases cs <;> cases hp'
  | [k], x, cs, h, p, hp' => by
    match cs with
    | [c] => exact one_row k x c h p hp'
    | [] => exact no_some (α := k.T) h
    | _ :: _ :: _ => exact no_some (α := k.T) h
  | k :: k' :: r, x, cs, h, p, hp' => by
    match cs with
    | c :: cr =>
      rw [mWs_cons] at h
      split at h
      · rename_i a b ha hb
        rw [rowsW_cons] at hp'
        rcases List.mem_append.1 hp' with hp' | hp'
        · exact one_row k a c ha p hp'
        · exact row_wr (k' :: r) b cr hb p hp'
      · exact no_some (α := k.T × WKs (k' :: r)) h
    | [] => exact no_some (α := k.T × WKs (k' :: r)) h
where
  one_row (k : WK) (x : k.T) (c : SC) (h : mW hp k c = some x) (p : Nat) (hp' : p ∈ rowsW [k] [c]) : wrE (hp p) := by
    cases k with
    | c k => cases c <;> cases hp'
    | row t e =>
      obtain ⟨n, rfl, hr⟩ := mW_row h
      have hp' : p ∈ [n] := hp'
      rw [List.mem_singleton] at hp'
      subst hp'
      rw [hr]
      trivial
theorem ptr_box : ∀ (ks : List AK) (x : AKs ks) (sas : List SV), mAs hp ks sas = some x → ∀ p, p ∈ ptrs ks sas → wrE (hp p)
  | [], x, sas, h, p, hp' => by cases sas <;> cases hp'
  | [k], x, sas, h, p, hp' => by
    match sas with
    | [sa] => exact one_box k x sa h p hp'
    | [] => exact no_some (α := k.T) h
    | _ :: _ :: _ => exact no_some (α := k.T) h
  | k :: k' :: r, x, sas, h, p, hp' => by
    match sas with
    | sa :: sar =>
      replace h : ((match mA hp k sa, mAs hp (k' :: r) sar with
        | some a, some b => some (a, b)
        | _, _ => none) : Option (k.T × AKs (k' :: r))) = some x := h
      split at h
      · rename_i a b ha hb
        rw [ptrs_cons] at hp'
        rcases List.mem_append.1 hp' with hp' | hp'
        · exact one_box k a sa ha p hp'
        · exact ptr_box (k' :: r) b sar hb p hp'
      · exact no_some (α := k.T × AKs (k' :: r)) h
    | [] => exact no_some (α := k.T × AKs (k' :: r)) h
where
  one_box (k : AK) (x : k.T) (sa : SV) (h : mA hp k sa = some x) (p : Nat) (hp' : p ∈ ptrs [k] [sa]) : wrE (hp p) := by
    cases k with
    | c k =>
      obtain ⟨y, rfl, _⟩ := mA_c h
      cases hp'
    | agg ks =>
      obtain ⟨cs, rfl, _⟩ := mA_agg h
      cases hp'
    | ptr ks t =>
      obtain ⟨n, cs, rfl, hb, _⟩ := mA_ptr h
      have hp' : p ∈ [n] := hp'
      rw [List.mem_singleton] at hp'
      subst hp'
      rw [hb]
      trivial
    | w g ks =>
      obtain ⟨cs, rfl, hw⟩ := mA_w h
      have hp' : p ∈ rowsW ks cs ++ [] := hp'
      rw [List.append_nil] at hp'
      exact row_wr ks x cs hw p hp'
/-- Where no rows are handed all that is handed are boxes. -/
theorem ptr_box' : ∀ (ks : List AK) (x : AKs ks) (sas : List SV), noW ks = true → mAs hp ks sas = some x → ∀ p, p ∈ ptrs ks sas → boxE (hp p)
  | [], x, sas, _, h, p, hp' => by cases sas <;> cases hp'
  | [k], x, sas, hw, h, p, hp' => by
    match sas with
    | [sa] => exact one_box k x sa hw h p hp'
    | [] => exact no_some (α := k.T) h
    | _ :: _ :: _ => exact no_some (α := k.T) h
  | k :: k' :: r, x, sas, hw, h, p, hp' => by
    have hw1 : noW [k] = true ∧ noW (k' :: r) = true := by
      cases k with
      | w g ks => cases hw
      | _ => exact ⟨rfl, hw⟩
    match sas with
    | sa :: sar =>
      replace h : ((match mA hp k sa, mAs hp (k' :: r) sar with
        | some a, some b => some (a, b)
        | _, _ => none) : Option (k.T × AKs (k' :: r))) = some x := h
      split at h
      · rename_i a b ha hb
        rw [ptrs_cons] at hp'
        rcases List.mem_append.1 hp' with hp' | hp'
        · exact one_box k a sa hw1.1 ha p hp'
        · exact ptr_box' (k' :: r) b sar hw1.2 hb p hp'
      · exact no_some (α := k.T × AKs (k' :: r)) h
    | [] => exact no_some (α := k.T × AKs (k' :: r)) h
where
  one_box (k : AK) (x : k.T) (sa : SV) (hw : noW [k] = true) (h : mA hp k sa = some x) (p : Nat) (hp' : p ∈ ptrs [k] [sa]) : boxE (hp p) := by
    cases k with
    | c k =>
      obtain ⟨y, rfl, _⟩ := mA_c h
      cases hp'
    | agg ks =>
      obtain ⟨cs, rfl, _⟩ := mA_agg h
      cases hp'
    | ptr ks t =>
      obtain ⟨n, cs, rfl, hb, _⟩ := mA_ptr h
      have hp' : p ∈ [n] := hp'
      rw [List.mem_singleton] at hp'
      subst hp'
      rw [hb]
      trivial
    | w g ks => cases hw
end
theorem nmC_sl : ∀ (ks : List WK) (cs : List SC) (p : Nat), p ∈ rowsW ks cs → p ∈ nmC cs
  | [], cs, p, h => by cases cs <;> cases h
  | k :: r, [], p, h => by cases k <;> cases h
  | k :: r, c :: cr, p, h => by
    rw [rowsW_cons] at h
    rcases List.mem_append.1 h with h | h
    · cases k with
      | c k => cases c <;> cases h
      | row t e =>
        cases c with
        | sl n =>
          have h : p ∈ [n] := h
          rw [List.mem_singleton] at h
          subst h
          exact List.mem_cons_self
        | _ => cases h
    · have := nmC_sl r cr p h
      cases c <;> first | exact this | exact List.mem_cons_of_mem _ this
theorem ptr_slA : ∀ (ks : List AK) (sas : List SV) (p : Nat), p ∈ ptrs ks sas → p ∈ slA sas
  | [], sas, p, h => by cases sas <;> cases h
  | k :: r, [], p, h => by cases k <;> cases h
  | k :: r, sa :: sar, p, h => by
    rw [ptrs_cons] at h
    have hr := fun h => ptr_slA r sar p h
    rcases List.mem_append.1 h with h | h
    · cases k with
      | c k => cases sa <;> cases h
      | agg ks => cases sa <;> cases h
      | ptr ks t =>
        match sa, h with
        | .a false [.ptr n 0], h =>
          have h : p ∈ [n] := h
          rw [List.mem_singleton] at h
          subst h
          exact List.mem_cons_self
      | w g ks =>
        cases sa with
        | a g' cs =>
          have h : p ∈ rowsW ks cs ++ [] := h
          rw [List.append_nil] at h
          exact List.mem_append_left _ (nmC_sl ks cs p h)
        | any => cases h
        | tup _ => cases h
    · have := hr h
      cases sa <;> first | exact this | exact List.mem_append_right _ this
theorem mAs_len {hp : Hp} : ∀ (ks : List AK) (x : AKs ks) (sas : List SV), mAs hp ks sas = some x → sas.length = ks.length
  | [], x, sas, h => by
    cases sas with
    | nil => rfl
    | cons _ _ => exact no_some (α := Unit) h
  | [k], x, sas, h => by
    match sas with
    | [_] => rfl
    | [] => exact no_some (α := k.T) h
    | _ :: _ :: _ => exact no_some (α := k.T) h
  | k :: k' :: r, x, sas, h => by
    match sas with
    | sa :: sar =>
      replace h : ((match mA hp k sa, mAs hp (k' :: r) sar with
        | some a, some b => some (a, b)
        | _, _ => none) : Option (k.T × AKs (k' :: r))) = some x := h
      split at h
      · rename_i a b ha hb
        have := mAs_len (k' :: r) b sar hb
        simp at this ⊢
        omega
      · exact no_some (α := k.T × AKs (k' :: r)) h
    | [] => exact no_some (α := k.T × AKs (k' :: r)) h
theorem pair_sub {νF ν0 ν : Nat → Value} : ∀ {l m : List Nat}, PairP ν0 ν l m → (∀ q, q ∈ m → νF q = ν0 q) → PairP νF ν l m
  | [], [], _, _ => trivial
  | _ :: _, q :: _, h, hh => ⟨(hh q List.mem_cons_self).trans h.1, pair_sub h.2 fun q hq => hh q (List.mem_cons_of_mem _ hq)⟩
/-- What a begin has named is never free again. -/
theorem iC_keep (k : CK) (x : k.T) (nm : Nat) (hpc : Hp) (n : Nat) (h : hpc n ≠ .free) : (iC nm hpc k x).2.2 n ≠ .free := by
  cases k with
  | sl t =>
    show (upd hpc nm (.ro t x 0)) n ≠ .free
    by_cases hn : n = nm
    · subst hn; rw [upd_same]; simp
    · rw [upd_other _ _ hn]; exact h
  | _ => exact h
theorem iCs_keep : ∀ (ks : List CK) (x : CKs ks) (nm : Nat) (hpc : Hp) (n : Nat), hpc n ≠ .free → (iCs ks x nm hpc).2.2 n ≠ .free
  | [], _, _, _, _, h => h
  | [k], x, nm, hpc, n, h => iC_keep k x nm hpc n h
  | k :: k' :: r, x, nm, hpc, n, h => iCs_keep (k' :: r) x.2 (iC nm hpc k x.1).2.1 (iC nm hpc k x.1).2.2 n (iC_keep k x.1 nm hpc n h)
theorem iW_keep (k : WK) (x : k.T) (nm : Nat) (hpc : Hp) (n : Nat) (h : hpc n ≠ .free) : (iW nm hpc k x).2.2 n ≠ .free := by
  cases k with
  | c k => exact iC_keep k x nm hpc n h
  | row t e =>
    show (upd hpc nm (.row t x e)) n ≠ .free
    by_cases hn : n = nm
    · subst hn; rw [upd_same]; simp
    · rw [upd_other _ _ hn]; exact h
theorem iWs_keep : ∀ (ks : List WK) (x : WKs ks) (nm : Nat) (hpc : Hp) (n : Nat), hpc n ≠ .free → (iWs ks x nm hpc).2.2 n ≠ .free
  | [], _, _, _, _, h => h
  | [k], x, nm, hpc, n, h => iW_keep k x nm hpc n h
  | k :: k' :: r, x, nm, hpc, n, h => iWs_keep (k' :: r) x.2 (iW nm hpc k x.1).2.1 (iW nm hpc k x.1).2.2 n (iW_keep k x.1 nm hpc n h)
theorem iWs_name : ∀ (ks : List WK) (x : WKs ks) (nm : Nat) (hpc : Hp) (q : Nat), q ∈ rowsW ks (iWs ks x nm hpc).1 → (iWs ks x nm hpc).2.2 q ≠ .free
  | [], _, _, _, _, h => by cases h
  | [k], x, nm, hpc, q, h => one k x nm hpc q h
  | k :: k' :: r, x, nm, hpc, q, h => by
    have hq : (iWs (k :: k' :: r) x nm hpc).1 = (iW nm hpc k x.1).1 :: (iWs (k' :: r) x.2 (iW nm hpc k x.1).2.1 (iW nm hpc k x.1).2.2).1 := rfl
    rw [hq, rowsW_cons] at h
    show (iWs (k' :: r) x.2 (iW nm hpc k x.1).2.1 (iW nm hpc k x.1).2.2).2.2 q ≠ .free
    rcases List.mem_append.1 h with h | h
    · exact iWs_keep (k' :: r) x.2 _ _ q (one k x.1 nm hpc q h)
    · exact iWs_name (k' :: r) x.2 _ _ q h
where
  one (k : WK) (x : k.T) (nm : Nat) (hpc : Hp) (q : Nat) (h : q ∈ rowsW [k] [(iW nm hpc k x).1]) : (iW nm hpc k x).2.2 q ≠ .free := by
    cases k with
    | c k =>
      have : ∀ y : SC, rowsW [WK.c k] [y] = [] := fun y => by cases y <;> rfl
      rw [this] at h
      cases h
    | row t e =>
      have h : q ∈ [nm] := h
      rw [List.mem_singleton] at h
      subst h
      show (upd hpc q (.row t x e)) q ≠ .free
      rw [upd_same]; simp
theorem iA_keep (k : AK) (x : k.T) (nm : Nat) (hpc : Hp) (n : Nat) (h : hpc n ≠ .free) : (iA k x nm hpc).2.2 n ≠ .free := by
  cases k with
  | c k => exact iC_keep k x nm hpc n h
  | agg ks => exact iCs_keep ks x nm hpc n h
  | ptr ks t =>
    show (upd (iCs ks x (nm + 1) hpc).2.2 nm (.box (iCs ks x (nm + 1) hpc).1 t)) n ≠ .free
    by_cases hn : n = nm
    · subst hn; rw [upd_same]; simp
    · rw [upd_other _ _ hn]; exact iCs_keep ks x (nm + 1) hpc n h
  | w g ks => exact iWs_keep ks x nm hpc n h
theorem iAs_keep : ∀ (ks : List AK) (x : AKs ks) (nm : Nat) (hpc : Hp) (n : Nat), hpc n ≠ .free → (iAs ks x nm hpc).2.2 n ≠ .free
  | [], _, _, _, _, h => h
  | [k], x, nm, hpc, n, h => iA_keep k x nm hpc n h
  | k :: k' :: r, x, nm, hpc, n, h => iAs_keep (k' :: r) x.2 (iA k x.1 nm hpc).2.1 (iA k x.1 nm hpc).2.2 n (iA_keep k x.1 nm hpc n h)
theorem iA_name (k : AK) (x : k.T) (nm : Nat) (hpc : Hp) (q : Nat) (h : q ∈ ptrs [k] [(iA k x nm hpc).1]) : (iA k x nm hpc).2.2 q ≠ .free := by
  cases k with
  | c k => cases h
  | agg ks => cases h
  | ptr ks t =>
    have h : q ∈ [nm] := h
    rw [List.mem_singleton] at h
    subst h
    show (upd (iCs ks x (q + 1) hpc).2.2 q (.box (iCs ks x (q + 1) hpc).1 t)) q ≠ .free
    rw [upd_same]; simp
  | w g ks =>
    have h : q ∈ rowsW ks (iWs ks x nm hpc).1 ++ [] := h
    rw [List.append_nil] at h
    exact iWs_name ks x nm hpc q h
theorem ptr_name : ∀ (ks : List AK) (x : AKs ks) (nm : Nat) (hpc : Hp) (q : Nat), q ∈ ptrs ks (iAs ks x nm hpc).1 → (iAs ks x nm hpc).2.2 q ≠ .free
  | [], _, _, _, _, h => by cases h
  | [k], x, nm, hpc, q, h => iA_name k x nm hpc q h
  | k :: k' :: r, x, nm, hpc, q, h => by
    have hq : (iAs (k :: k' :: r) x nm hpc).1 = (iA k x.1 nm hpc).1 :: (iAs (k' :: r) x.2 (iA k x.1 nm hpc).2.1 (iA k x.1 nm hpc).2.2).1 := rfl
    rw [hq, ptrs_cons] at h
    show (iAs (k' :: r) x.2 (iA k x.1 nm hpc).2.1 (iA k x.1 nm hpc).2.2).2.2 q ≠ .free
    rcases List.mem_append.1 h with h | h
    · exact iAs_keep (k' :: r) x.2 _ _ q (iA_name k x.1 nm hpc q h)
    · exact ptr_name (k' :: r) x.2 _ _ q h
theorem ptr_name0 (ks : List AK) (x : AKs ks) (nm : Nat) (hpc : Hp) (q : Nat) (h : q ∈ ptrs ks (iAs ks x nm hpc).1) : (iAs ks x nm hpc).2.2 q ≠ .free := ptr_name ks x nm hpc q h
end Go.Sx
