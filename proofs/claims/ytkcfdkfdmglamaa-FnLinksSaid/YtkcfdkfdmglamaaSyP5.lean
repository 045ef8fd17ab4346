/- Sums, seals and numbers in texts. -/
import Derived.Test.YtkcfdkfdmglamaaSyP4
set_option linter.unusedVariables false
set_option linter.unusedSimpArgs false
namespace Go.Sx
open Go.RowKit (wrap64)
/-! ### sums -/
def rnd (b : Int) : Int := if Int.tmod b 2 = 1 then ixor .u32 (wr .u32 (Int.tdiv b 2)) 3558460437 else wr .u32 (Int.tdiv b 2)
def rnds : Nat → Int → Int
  | 0, b => b
  | n + 1, b => rnds n (rnd b)
def sumF : List UInt8 → Int → Int
  | [], b => b
  | x :: r, b => sumF r (rnds 8 (ixor .u32 b (wr .u32 x.toNat)))
def U32 (a : Int) : Prop := 0 ≤ a ∧ a < 4294967296
theorem u32_wr (n : Int) : U32 (wr .u32 n) := by
  have e : wr .u32 n = n % 4294967296 := rfl
  rw [e]; unfold U32; omega
theorem u32_xor (a b : Int) : U32 (ixor .u32 a b) := by
  have e : ixor .u32 a b = IntKind.u32.wrap (((BitVec.ofInt 32 a ^^^ BitVec.ofInt 32 b).toNat : Nat) : Int) := rfl
  rw [e]
  have h : (BitVec.ofInt 32 a ^^^ BitVec.ofInt 32 b).toNat < 2 ^ 32 := BitVec.isLt _
  generalize (BitVec.ofInt 32 a ^^^ BitVec.ofInt 32 b).toNat = n at h
  have e2 : IntKind.u32.wrap ((n : Nat) : Int) = (n : Int) := by
    simp [IntKind.wrap, IntKind.signed, IntKind.bits]
    omega
  rw [e2]; unfold U32; omega
theorem u32_rnd (b : Int) : U32 (rnd b) := by
  unfold rnd; split
  · exact u32_xor _ _
  · exact u32_wr _
theorem u32_rnds : ∀ (n : Nat) (b : Int), U32 b → U32 (rnds n b)
  | 0, _, h => h
  | n + 1, b, _ => u32_rnds n _ (u32_rnd b)
theorem u32_sumF : ∀ (l : List UInt8) (b : Int), U32 b → U32 (sumF l b)
  | [], _, h => h
  | x :: r, b, _ => u32_sumF r _ (u32_rnds 8 _ (u32_xor _ _))
def sumOf (s : ByteArray) : Int := sumF (bl s) 4294967295
theorem u32_sumOf (s : ByteArray) : U32 (sumOf s) := u32_sumF _ _ (by unfold U32; omega)
/-- The four bytes of a sum. -/
def four (v : Int) : ByteArray := bstr [wr .u8 (v / 16777216), wr .u8 (v / 65536), wr .u8 (v / 256), wr .u8 v]
theorem four_size (v : Int) : (four v).size = 4 := by unfold four; rw [size_bstr]; rfl
theorem shr_u32 {v : Int} (n : Nat) (hn : n ≤ 32) : Int.fdiv v (2 ^ (min (Int.toNat n) (IntKind.bits .u32))) = v / 2 ^ n := by
  have : min (Int.toNat n) (IntKind.bits .u32) = n := by
    have : IntKind.bits .u32 = 32 := rfl
    rw [this]; omega
  rw [this, Int.fdiv_eq_ediv_of_nonneg]
  exact Int.le_of_lt (Int.pow_pos (by omega))
theorem and255_eq {x : Int} (h : 0 ≤ x) : iand .i64 x 255 = x % 256 := by
  have e : iand .i64 x 255 = IntKind.i64.wrap (((BitVec.ofInt 64 x &&& BitVec.ofInt 64 255).toNat : Nat) : Int) := rfl
  obtain ⟨n, rfl⟩ := Int.eq_ofNat_of_zero_le h
  have h2 : (BitVec.ofInt 64 (n : Int) &&& BitVec.ofInt 64 255).toNat = n % 256 := by
    rw [BitVec.toNat_and]
    have e1 : (BitVec.ofInt 64 (n : Int)).toNat = n % 2 ^ 64 := by rw [BitVec.ofInt_natCast, BitVec.toNat_ofNat]
    have e2 : (BitVec.ofInt 64 255).toNat = 2 ^ 8 - 1 := rfl
    rw [e1, e2, Nat.and_two_pow_sub_one_eq_mod]
    omega
  rw [e, h2, IntKind.wrap_i64]
  omega
/-! ### seals -/
def sealT (s : ByteArray) : ByteArray × Bool := if 20000 < s.size then (⟨#[]⟩, false) else (s ++ four (sumOf s), true)
def front (t : ByteArray) : ByteArray := t.extract 0 (t.size - 4)
def unsealT (t : ByteArray) : ByteArray × Bool :=
  if t.size < 4 then (⟨#[]⟩, false) else if (front t).size ≤ 20000 ∧ front t ++ four (sumOf (front t)) = t then (front t, true) else (⟨#[]⟩, false)
theorem front_size (t : ByteArray) : (front t).size = t.size - 4 := by
  unfold front
  rw [size_bl, bl_extract, List.drop_zero, List.length_take, ← size_bl]
  omega
theorem cut_join (t : ByteArray) (n : Nat) : t.extract 0 n ++ t.extract n t.size = t := by
  apply ba_ext
  rw [bl_append, bl_extract, bl_extract, List.drop_zero, size_bl t, List.take_length, List.take_append_drop]
theorem append_inj {a b c d : ByteArray} (h : a ++ b = c ++ d) (hs : a.size = c.size) : a = c ∧ b = d := by
  have h1 := congrArg bl h
  rw [bl_append, bl_append] at h1
  rw [size_bl, size_bl c] at hs
  obtain ⟨h2, h3⟩ := List.append_inj h1 hs
  exact ⟨ba_ext h2, ba_ext h3⟩
theorem tail_eq (t v : ByteArray) : t.extract (t.size - 4) t.size = v ↔ front t ++ v = t := by
  constructor
  · intro h; rw [← h]; exact cut_join t _
  · intro h
    have := cut_join t (t.size - 4)
    exact ((append_inj (this.trans h.symm) rfl).2)
/-! ### numbers in texts -/
/-- Seven bits a byte, the lowest first. -/
def varL (n : Nat) : List Nat := if h : n ≤ 127 then [n] else (n % 128 + 128) :: varL (n / 128)
termination_by n
decreasing_by omega
def accV : List Nat → Nat → Nat
  | [], c => c
  | d :: r, c => d % 128 + 128 * accV r c
theorem accV_zero : ∀ (l : List Nat) (c : Nat), accV l c = 0 → c = 0
  | [], c, h => h
  | d :: r, c, h => accV_zero r c (by unfold accV at h; omega)
theorem accV_snoc : ∀ (l : List Nat) (d c : Nat), accV (l ++ [d]) c = accV l (d % 128 + 128 * c)
  | [], d, c => rfl
  | e :: r, d, c => by
    show e % 128 + 128 * accV (r ++ [d]) c = e % 128 + 128 * accV r _
    rw [accV_snoc r d c]
theorem accV_add : ∀ (l : List Nat) (c : Nat), accV l c = accV l 0 + c * 128 ^ l.length
  | [], c => by simp [accV]
  | d :: r, c => by
    show d % 128 + 128 * accV r c = d % 128 + 128 * accV r 0 + c * 128 ^ (r.length + 1)
    rw [accV_add r c, Nat.pow_succ, Nat.mul_add]
    have : 128 * (c * 128 ^ r.length) = c * (128 ^ r.length * 128) := by rw [← Nat.mul_assoc, Nat.mul_comm 128 c, Nat.mul_assoc, Nat.mul_comm 128 (128 ^ r.length)]
    omega
theorem varL_len : ∀ (n : Nat), 1 ≤ (varL n).length := by
  intro n
  unfold varL
  split <;> simp
theorem varL_acc : ∀ (l : List Nat) (c : Nat), (∀ x ∈ l, 128 ≤ x ∧ x ≤ 255) → c ≤ 127 → (varL (accV l c) = l ++ [c] ↔ (l = [] ∨ c ≠ 0))
  | [], c, _, hc => by
    show varL c = [c] ↔ _
    unfold varL
    rw [dif_pos hc]
    simp
  | d :: r, c, hl, hc => by
    have hd := hl d List.mem_cons_self
    have hr : ∀ x ∈ r, 128 ≤ x ∧ x ≤ 255 := fun x hx => hl x (List.mem_cons_of_mem _ hx)
    have ih := varL_acc r c hr hc
    have e : accV (d :: r) c = d % 128 + 128 * accV r c := rfl
    by_cases hm : accV r c = 0
    · have h0 := accV_zero r c hm
      rw [e, hm]
      unfold varL
      rw [dif_pos (by omega)]
      constructor
      · intro h
        have := congrArg List.length h
        simp at this
      · rintro (h | h)
        · cases h
        · exact absurd h0 h
    · rw [e]
      have h1 : (d % 128 + 128 * accV r c) / 128 = accV r c := by omega
      have h2 : (d % 128 + 128 * accV r c) % 128 + 128 = d := by omega
      unfold varL
      rw [dif_neg (by omega), h1, h2]
      constructor
      · intro h
        have h := (List.cons.inj h).2
        rcases ih.1 h with h3 | h3
        · subst h3
          exact .inr (fun h4 => hm h4)
        · exact .inr h3
      · rintro (h | h)
        · cases h
        · show d :: varL (accV r c) = d :: (r ++ [c])
          rw [ih.2 (.inr h)]
def varT (n : Nat) : ByteArray := bstr ((varL n).map fun (x : Nat) => (x : Int))
theorem varT_size1 (n : Nat) : 1 ≤ (varT n).size := by
  unfold varT
  rw [size_bstr, List.length_map]
  exact varL_len n
theorem bl_varT (n : Nat) : bl (varT n) = (varL n).map fun x => UInt8.ofNat x := by
  unfold varT
  rw [bl_bstr, List.map_map]
  rfl
theorem varL_le : ∀ (n : Nat), ∀ x ∈ varL n, x ≤ 255 := by
  intro n
  induction n using varL.induct with
  | case1 n h =>
    intro x hx
    unfold varL at hx
    rw [dif_pos h] at hx
    simp at hx
    omega
  | case2 n h ih =>
    intro x hx
    unfold varL at hx
    rw [dif_neg h] at hx
    rcases List.mem_cons.1 hx with hx | hx
    · omega
    · exact ih x hx
theorem varL_long : ∀ (f n : Nat), n < 128 ^ (f + 1) → (varL n).length ≤ f + 1
  | 0, n, h => by
    unfold varL
    rw [dif_pos (by omega)]
    simp
  | f + 1, n, h => by
    unfold varL
    by_cases hn : n ≤ 127
    · rw [dif_pos hn]; simp
    · rw [dif_neg hn]
      have : n / 128 < 128 ^ (f + 1) := by
        rw [Nat.div_lt_iff_lt_mul (by omega)]
        rw [Nat.pow_succ] at h
        exact h
      have := varL_long f (n / 128) this
      simp only [List.length_cons]
      omega
theorem varT_size {n : Nat} (h : n ≤ 9223372036854775807) : (varT n).size ≤ 10 := by
  unfold varT
  rw [size_bstr, List.length_map]
  exact varL_long 9 n (by omega)
theorem u8_inj {l m : List Nat} (hl : ∀ x ∈ l, x ≤ 255) (hm : ∀ x ∈ m, x ≤ 255) (h : (l.map fun x => UInt8.ofNat x) = m.map fun x => UInt8.ofNat x) : l = m := by
  induction l generalizing m with
  | nil => cases m with
    | nil => rfl
    | cons _ _ => cases h
  | cons x l ih => cases m with
    | nil => cases h
    | cons y m =>
      simp only [List.map_cons, List.cons.injEq] at h
      have h1 := congrArg UInt8.toNat h.1
      have hx := hl x List.mem_cons_self
      have hy := hm y List.mem_cons_self
      simp only [UInt8.toNat_ofNat'] at h1
      have : x = y := by omega
      rw [this, ih (fun z hz => hl z (List.mem_cons_of_mem _ hz)) (fun z hz => hm z (List.mem_cons_of_mem _ hz)) h.2]
/-- The bytes of a text from a place on. -/
def byN (s : ByteArray) (i : Nat) : Nat := if h : i < s.size then (s[i]'h).toNat else 0
theorem byt_byN (s : ByteArray) (i : Nat) : byt s (i : Int) = (byN s i : Int) := by
  unfold byt byN
  simp only [Int.toNat_natCast]
  split <;> rfl
theorem byN_le (s : ByteArray) (i : Nat) : byN s i ≤ 255 := by
  unfold byN
  split
  · have := UInt8.toNat_lt (s[i]'(by assumption)); omega
  · omega
/-- Reading a number: at most five bytes. -/
def rdv (s : ByteArray) (at_ : Nat) : Nat → Nat → Nat → Int × Int × Bool
  | 0, _, _ => (0, 0, false)
  | f + 1, j, n =>
    if at_ + j < s.size then
      if 127 < byN s (at_ + j) then rdv s at_ f (j + 1) (n + byN s (at_ + j) % 128 * 128 ^ j)
      else if (0 < j ∧ byN s (at_ + j) = 0) ∨ 1000000000 < n + byN s (at_ + j) % 128 * 128 ^ j then (0, 0, false)
      else (((n + byN s (at_ + j) % 128 * 128 ^ j : Nat) : Int), ((at_ + j + 1 : Nat) : Int), true)
    else (0, 0, false)
def readV (s : ByteArray) (i : Int) : Int × Int × Bool := if 0 ≤ i ∧ i ≤ (s.size : Int) then rdv s i.toNat 5 0 0 else (0, 0, false)
/-- The bytes that a number takes. -/
def bytN (s : ByteArray) (a : Nat) : Nat → List Nat
  | 0 => []
  | j + 1 => bytN s a j ++ [byN s (a + j)]
theorem bytN_len (s : ByteArray) (a : Nat) : ∀ j, (bytN s a j).length = j
  | 0 => rfl
  | j + 1 => by unfold bytN; rw [List.length_append, bytN_len s a j]; rfl
theorem bl_part (s : ByteArray) (a : Nat) : ∀ (j : Nat), a + j ≤ s.size → bl (s.extract a (a + j)) = (bytN s a j).map fun x => UInt8.ofNat x
  | 0, h => by rw [bl_extract]; simp [bytN]
  | j + 1, h => by
    have ih := bl_part s a j (by omega)
    rw [bl_extract] at ih ⊢
    have hl : a + j < (bl s).length := by rw [bl_len]; omega
    have e : (bl s).take (a + (j + 1)) = (bl s).take (a + j) ++ [(bl s)[a + j]] := by
      rw [← Nat.add_assoc, List.take_succ_eq_append_getElem hl]
    rw [e, List.drop_append_of_le_length (by rw [List.length_take]; omega), ih]
    have e3 : bytN s a (j + 1) = bytN s a j ++ [byN s (a + j)] := rfl
    rw [e3, List.map_append]
    have e2 : UInt8.ofNat (byN s (a + j)) = (bl s)[a + j] := by
      unfold byN
      rw [dif_pos (by omega), UInt8.ofNat_toNat]
      rfl
    rw [List.map_cons, List.map_nil, e2]
/-! ### orders as texts -/
def numberF : ByteArray × Int × Bool → Int × (ByteArray × Int × Bool)
  | (s, i, b) => if b = true then (0, (s, i, true)) else if (readV s i).2.2 = true then ((readV s i).1, (s, (readV s i).2.1, b)) else (0, (s, i, true))
def otext : Order → ByteArray
  | (a, b, c, x) => bstr [wr .u8 a] ++ varT b.toNat ++ varT c.toNat ++ varT x.toNat
def orderT (o : Order) : ByteArray × Bool := if orderOk o = true then sealT (otext o) else (⟨#[]⟩, false)
def readO (t : ByteArray) : Order × Bool :=
  if (unsealT t).2 = true ∧ 0 < (unsealT t).1.size then
    if (numberF (numberF (numberF ((unsealT t).1, 1, false)).2).2).2.2.2 = true then ((0, 0, 0, 0), false)
    else if (numberF (numberF (numberF ((unsealT t).1, 1, false)).2).2).2.2.1 = ((unsealT t).1.size : Int) ∧ orderOk (byt (unsealT t).1 0, (numberF ((unsealT t).1, 1, false)).1, (numberF (numberF ((unsealT t).1, 1, false)).2).1, (numberF (numberF (numberF ((unsealT t).1, 1, false)).2).2).1) = true then ((byt (unsealT t).1 0, (numberF ((unsealT t).1, 1, false)).1, (numberF (numberF ((unsealT t).1, 1, false)).2).1, (numberF (numberF (numberF ((unsealT t).1, 1, false)).2).2).1), true)
    else ((0, 0, 0, 0), false)
  else ((0, 0, 0, 0), false)
theorem varT_part (s : ByteArray) (a j n : Nat) (h : a + j < s.size) (hn : n = accV (bytN s a j) 0) (hb : ∀ x ∈ bytN s a j, 128 ≤ x ∧ x ≤ 255) (hc : byN s (a + j) ≤ 127) :
    varT (n + byN s (a + j) % 128 * 128 ^ j) = s.extract a (a + j + 1) ↔ ¬ (0 < j ∧ byN s (a + j) = 0) := by
  have e1 : n + byN s (a + j) % 128 * 128 ^ j = accV (bytN s a j) (byN s (a + j)) := by
    rw [accV_add, bytN_len, hn, Nat.mod_eq_of_lt (by omega : byN s (a + j) < 128)]
  have e2 := bl_part s a (j + 1) (by omega)
  have e3 : bytN s a (j + 1) = bytN s a j ++ [byN s (a + j)] := rfl
  have e4 := varL_acc (bytN s a j) (byN s (a + j)) hb hc
  have e5 : bytN s a j = [] ↔ j = 0 := by
    rw [← List.length_eq_zero_iff, bytN_len]
  rw [e1]
  have e6 : varT (accV (bytN s a j) (byN s (a + j))) = s.extract a (a + j + 1) ↔ varL (accV (bytN s a j) (byN s (a + j))) = bytN s a j ++ [byN s (a + j)] := by
    constructor
    · intro q
      have q := congrArg bl q
      rw [bl_varT, show a + j + 1 = a + (j + 1) from rfl, e2, e3] at q
      refine u8_inj (varL_le _) ?_ q
      intro x hx
      rcases List.mem_append.1 hx with hx | hx
      · exact (hb x hx).2
      · simp at hx; omega
    · intro q
      apply ba_ext
      rw [bl_varT, q, show a + j + 1 = a + (j + 1) from rfl, e2, e3]
  rw [e6, e4, e5]
  omega
theorem rdv_ok (s : ByteArray) (a : Nat) : ∀ (f j n : Nat), n = accV (bytN s a j) 0 → (∀ x ∈ bytN s a j, 128 ≤ x ∧ x ≤ 255) → (rdv s a f j n).2.2 = true → ∃ N e : Nat, rdv s a f j n = ((N : Int), (e : Int), true) ∧ a ≤ e ∧ e ≤ s.size ∧ varT N = s.extract a e
  | 0, j, n, _, _, h => by cases h
  | f + 1, j, n, hn, hb, h => by
    have hvp := fun h1 h2 => varT_part s a j n h1 hn hb h2
    have hih := fun (h : 127 < byN s (a + j)) => rdv_ok s a f (j + 1) (n + byN s (a + j) % 128 * 128 ^ j) (by
      have e3 : bytN s a (j + 1) = bytN s a j ++ [byN s (a + j)] := rfl
      rw [e3, accV_snoc, accV_add, bytN_len, ← hn]
      rfl) (fun x hx => by
        have hc := byN_le s (a + j)
        rcases List.mem_append.1 hx with hx | hx
        · exact hb x hx
        · rw [List.mem_singleton] at hx
          omega)
    unfold rdv at h ⊢
    generalize n + byN s (a + j) % 128 * 128 ^ j = N at *
    by_cases hlt : a + j < s.size
    · rw [if_pos hlt] at h ⊢
      by_cases h127 : 127 < byN s (a + j)
      · rw [if_pos h127] at h ⊢
        exact hih h127 h
      · rw [if_neg h127] at h ⊢
        by_cases hz : (0 < j ∧ byN s (a + j) = 0) ∨ 1000000000 < N
        · rw [if_pos hz] at h; cases h
        · rw [if_neg hz]
          exact ⟨N, a + j + 1, rfl, by omega, by omega, (hvp hlt (Nat.le_of_not_lt h127)).2 fun q => hz (.inl q)⟩
    · rw [if_neg hlt] at h; cases h
theorem readV_ok {s : ByteArray} {i : Int} (h : (readV s i).2.2 = true) : ∃ a N e : Nat, i = (a : Int) ∧ readV s i = ((N : Int), (e : Int), true) ∧ a ≤ e ∧ e ≤ s.size ∧ varT N = s.extract a e := by
  unfold readV at h ⊢
  by_cases hi : 0 ≤ i ∧ i ≤ (s.size : Int)
  · rw [if_pos hi] at h ⊢
    obtain ⟨a, rfl⟩ := Int.eq_ofNat_of_zero_le hi.1
    rw [Int.toNat_natCast] at h ⊢
    obtain ⟨N, e, h1, h2, h3, h4⟩ := rdv_ok s a 5 0 0 rfl (fun x hx => by cases hx) h
    exact ⟨a, N, e, rfl, h1, h2, h3, h4⟩
  · rw [if_neg hi] at h; cases h
theorem ext_join (s : ByteArray) (a b : Nat) (h : a ≤ b) : s.extract 0 a ++ s.extract a b = s.extract 0 b := by
  apply ba_ext
  rw [bl_append, bl_extract, bl_extract, bl_extract, List.drop_zero, List.drop_zero]
  have : (bl s).take a = ((bl s).take b).take a := by rw [List.take_take, Nat.min_eq_left h]
  rw [this, List.take_append_drop]
theorem ext_one (s : ByteArray) (h : 0 < s.size) : bstr [wr .u8 (byt s 0)] = s.extract 0 1 := by
  apply ba_ext
  have e := bl_part s 0 1 (by omega)
  rw [Nat.zero_add] at e
  rw [e, bl_bstr]
  have e2 : byt s 0 = (byN s 0 : Int) := byt_byN s 0
  have hc := byN_le s 0
  rw [e2]
  have e3 : (((byN s 0 : Nat) : Int) % 256).toNat = byN s 0 := by omega
  show [UInt8.ofNat (((byN s 0 : Nat) : Int) % 256).toNat] = [UInt8.ofNat (byN s (0 + 0))]
  rw [e3]
theorem numberF_ok {s : ByteArray} {i : Int} (h : (numberF (s, i, false)).2.2.2 = false) : ∃ a N e : Nat, i = (a : Int) ∧ numberF (s, i, false) = ((N : Int), (s, (e : Int), false)) ∧ a ≤ e ∧ e ≤ s.size ∧ varT N = s.extract a e := by
  unfold numberF at h ⊢
  simp only [Bool.false_eq_true, if_false] at h ⊢
  by_cases hr : (readV s i).2.2 = true
  · rw [if_pos hr]
    obtain ⟨a, N, e, h1, h2, h3⟩ := readV_ok hr
    rw [h2]
    exact ⟨a, N, e, h1, rfl, h3⟩
  · rw [if_neg hr] at h; cases h
theorem numberF_bad (s : ByteArray) (i : Int) : (numberF (s, i, true)).2.2.2 = true := rfl
theorem numberF_keep (x : ByteArray × Int × Bool) : (numberF x).2.1 = x.1 := by
  obtain ⟨s, i, b⟩ := x
  unfold numberF
  simp only []
  split
  · rfl
  · split <;> rfl
theorem numberF_three {s : ByteArray} (hs : 0 < s.size) (h : (numberF (numberF (numberF (s, 1, false)).2).2).2.2.2 = false) : ∃ N1 N2 N3 e : Nat, (numberF (s, 1, false)).1 = (N1 : Int) ∧ (numberF (numberF (s, 1, false)).2).1 = (N2 : Int) ∧ (numberF (numberF (numberF (s, 1, false)).2).2).1 = (N3 : Int) ∧ (numberF (numberF (numberF (s, 1, false)).2).2).2.2.1 = (e : Int) ∧ e ≤ s.size ∧ otext (byt s 0, (N1 : Int), (N2 : Int), (N3 : Int)) = s.extract 0 e := by
  have b1 : (numberF (s, 1, false)).2.2.2 = false := by
    cases hb : (numberF (s, 1, false)).2.2.2 with
    | false => rfl
    | true =>
      exfalso
      generalize numberF (s, 1, false) = y at hb h
      obtain ⟨n, s', i', b'⟩ := y
      simp only at hb
      subst hb
      have hb2 := numberF_bad s' i'
      generalize numberF (s', i', true) = z at hb2 h
      obtain ⟨n2, s2, i2, b2⟩ := z
      simp only at hb2
      subst hb2
      rw [numberF_bad] at h
      cases h
  obtain ⟨a1, N1, e1, q1, r1, le1, sz1, t1⟩ := numberF_ok b1
  have b2 : (numberF (numberF (s, 1, false)).2).2.2.2 = false := by
    cases hb : (numberF (numberF (s, 1, false)).2).2.2.2 with
    | false => rfl
    | true =>
      exfalso
      generalize numberF (numberF (s, 1, false)).2 = z at hb h
      obtain ⟨n2, s2, i2, b2⟩ := z
      simp only at hb
      subst hb
      rw [numberF_bad] at h
      cases h
  rw [r1] at b2 h ⊢
  obtain ⟨a2, N2, e2, q2, r2, le2, sz2, t2⟩ := numberF_ok b2
  simp only at h ⊢
  rw [r2] at h ⊢
  obtain ⟨a3, N3, e3, q3, r3, le3, sz3, t3⟩ := numberF_ok h
  simp only at ⊢
  rw [r3]
  refine ⟨N1, N2, N3, e3, rfl, rfl, rfl, rfl, sz3, ?_⟩
  have hq1 : a1 = 1 := by omega
  have hq2 : a2 = e1 := by omega
  have hq3 : a3 = e2 := by omega
  subst hq1 hq2 hq3
  unfold otext
  simp only [Int.toNat_natCast]
  rw [t1, t2, t3, ext_one s hs, ext_join s _ _ le1, ext_join s _ _ le2, ext_join s _ _ le3]
theorem unsealT_ok {t : ByteArray} (h : (unsealT t).2 = true) : (unsealT t).1.size ≤ 20000 ∧ (unsealT t).1 ++ four (sumOf (unsealT t).1) = t := by
  unfold unsealT at h ⊢
  by_cases h4 : t.size < 4
  · rw [if_pos h4] at h; cases h
  · rw [if_neg h4] at h ⊢
    by_cases hc : (front t).size ≤ 20000 ∧ front t ++ four (sumOf (front t)) = t
    · rw [if_pos hc]; exact hc
    · rw [if_neg hc] at h; cases h
theorem seal_same (s : ByteArray) (e : Nat) (hs : s.size ≤ 20000) (he : e ≤ s.size) : (sealT (s.extract 0 e)).2 = true ∧ ((sealT (s.extract 0 e)).1 = s ++ four (sumOf s) ↔ e = s.size) := by
  have hz : (s.extract 0 e).size = e := by
    rw [size_bl, bl_extract, List.drop_zero, List.length_take, ← size_bl]; omega
  unfold sealT
  have hn : ¬ 20000 < (s.extract 0 e).size := by omega
  rw [if_neg hn]
  refine ⟨rfl, ?_⟩
  constructor
  · intro q
    have q2 := congrArg ByteArray.size q
    simp only [size_append, four_size] at q2
    omega
  · intro q
    have : s.extract 0 e = s := by
      apply ba_ext
      rw [bl_extract, List.drop_zero, q, size_bl, List.take_length]
    simp only [this]
end Go.Sx
