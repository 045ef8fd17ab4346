/- A symbolic executor of the model's code, run by the kernel, and that it is sound; plain lemmas. -/
import Derived.Test.YtogagfoikapbpaaGreatDoorSz2
import Derived.Lib.ItoaNum
import Derived.Lib.Join
import Derived.Lib.SplitLaws
import Derived.Lib.Replace
import Derived.Lib.AtoiAll
import Derived.Below
import Derived.Shelf.Vars
import Derived.Lib.LaidTab
import Derived.Lib.Itoa
import Derived.Handed
import Derived.HandedShaped
import Derived.LaidLaws
import Derived.Stop.LaidErr
/- Sums, seals and numbers in texts. -/
set_option linter.unusedVariables false
set_option linter.unusedSimpArgs false
namespace Go.Sx
open Go.RowKit (wrap64)
/-! ### sums -/
def rnd (b : Int) : Int := if Int.tmod b 2 = 1 then ixor .u32 (wr .u32 (Int.tdiv b 2)) 3558460437 else wr .u32 (Int.tdiv b 2)
def rnds : Nat → Int → Int
  | 0, b => b
  | n + 1, b => rnds n (rnd b)
def sumF : List UInt8 → Int → Int
  | [], b => b
  | x :: r, b => sumF r (rnds 8 (ixor .u32 b (wr .u32 x.toNat)))
def U32 (a : Int) : Prop := 0 ≤ a ∧ a < 4294967296
theorem u32_wr (n : Int) : U32 (wr .u32 n) := by
  have e : wr .u32 n = n % 4294967296 := rfl
  rw [e]; unfold U32; omega
theorem u32_xor (a b : Int) : U32 (ixor .u32 a b) := by
  have e : ixor .u32 a b = IntKind.u32.wrap (((BitVec.ofInt 32 a ^^^ BitVec.ofInt 32 b).toNat : Nat) : Int) := rfl
  rw [e]
  have h : (BitVec.ofInt 32 a ^^^ BitVec.ofInt 32 b).toNat < 2 ^ 32 := BitVec.isLt _
  generalize (BitVec.ofInt 32 a ^^^ BitVec.ofInt 32 b).toNat = n at h
  have e2 : IntKind.u32.wrap ((n : Nat) : Int) = (n : Int) := by
    simp [IntKind.wrap, IntKind.signed, IntKind.bits]
    omega
  rw [e2]; unfold U32; omega
theorem u32_rnd (b : Int) : U32 (rnd b) := by
  unfold rnd; split
  · exact u32_xor _ _
  · exact u32_wr _
theorem u32_rnds : ∀ (n : Nat) (b : Int), U32 b → U32 (rnds n b)
  | 0, _, h => h
  | n + 1, b, _ => u32_rnds n _ (u32_rnd b)
theorem u32_sumF : ∀ (l : List UInt8) (b : Int), U32 b → U32 (sumF l b)
  | [], _, h => h
  | x :: r, b, _ => u32_sumF r _ (u32_rnds 8 _ (u32_xor _ _))
def sumOf (s : ByteArray) : Int := sumF (bl s) 4294967295
theorem u32_sumOf (s : ByteArray) : U32 (sumOf s) := u32_sumF _ _ (by unfold U32; omega)
/-- The four bytes of a sum. -/
def four (v : Int) : ByteArray := bstr [wr .u8 (v / 16777216), wr .u8 (v / 65536), wr .u8 (v / 256), wr .u8 v]
theorem four_size (v : Int) : (four v).size = 4 := by unfold four; rw [size_bstr]; rfl
theorem shr_u32 {v : Int} (n : Nat) (hn : n ≤ 32) : Int.fdiv v (2 ^ (min (Int.toNat n) (IntKind.bits .u32))) = v / 2 ^ n := by
  have : min (Int.toNat n) (IntKind.bits .u32) = n := by
    have : IntKind.bits .u32 = 32 := rfl
    rw [this]; omega
  rw [this, Int.fdiv_eq_ediv_of_nonneg]
  exact Int.le_of_lt (Int.pow_pos (by omega))
theorem and255_eq {x : Int} (h : 0 ≤ x) : iand .i64 x 255 = x % 256 := by
  have e : iand .i64 x 255 = IntKind.i64.wrap (((BitVec.ofInt 64 x &&& BitVec.ofInt 64 255).toNat : Nat) : Int) := rfl
  obtain ⟨n, rfl⟩ := Int.eq_ofNat_of_zero_le h
  have h2 : (BitVec.ofInt 64 (n : Int) &&& BitVec.ofInt 64 255).toNat = n % 256 := by
    rw [BitVec.toNat_and]
    have e1 : (BitVec.ofInt 64 (n : Int)).toNat = n % 2 ^ 64 := by rw [BitVec.ofInt_natCast, BitVec.toNat_ofNat]
    have e2 : (BitVec.ofInt 64 255).toNat = 2 ^ 8 - 1 := rfl
    rw [e1, e2, Nat.and_two_pow_sub_one_eq_mod]
    omega
  rw [e, h2, IntKind.wrap_i64]
  omega
/-! ### seals -/
def sealT (s : ByteArray) : ByteArray × Bool := if 20000 < s.size then (⟨#[]⟩, false) else (s ++ four (sumOf s), true)
def front (t : ByteArray) : ByteArray := t.extract 0 (t.size - 4)
def unsealT (t : ByteArray) : ByteArray × Bool :=
  if t.size < 4 then (⟨#[]⟩, false) else if (front t).size ≤ 20000 ∧ front t ++ four (sumOf (front t)) = t then (front t, true) else (⟨#[]⟩, false)
theorem front_size (t : ByteArray) : (front t).size = t.size - 4 := by
  unfold front
  rw [size_bl, bl_extract, List.drop_zero, List.length_take, ← size_bl]
  omega
theorem cut_join (t : ByteArray) (n : Nat) : t.extract 0 n ++ t.extract n t.size = t := by
  apply ba_ext
  rw [bl_append, bl_extract, bl_extract, List.drop_zero, size_bl t, List.take_length, List.take_append_drop]
theorem append_inj {a b c d : ByteArray} (h : a ++ b = c ++ d) (hs : a.size = c.size) : a = c ∧ b = d := by
  have h1 := congrArg bl h
  rw [bl_append, bl_append] at h1
  rw [size_bl, size_bl c] at hs
  obtain ⟨h2, h3⟩ := List.append_inj h1 hs
  exact ⟨ba_ext h2, ba_ext h3⟩
theorem tail_eq (t v : ByteArray) : t.extract (t.size - 4) t.size = v ↔ front t ++ v = t := by
  constructor
  · intro h; rw [← h]; exact cut_join t _
  · intro h
    have := cut_join t (t.size - 4)
    exact ((append_inj (this.trans h.symm) rfl).2)
/-! ### numbers in texts -/
/-- Seven bits a byte, the lowest first. -/
def varL (n : Nat) : List Nat := if h : n ≤ 127 then [n] else (n % 128 + 128) :: varL (n / 128)
termination_by n
decreasing_by omega
def accV : List Nat → Nat → Nat
  | [], c => c
  | d :: r, c => d % 128 + 128 * accV r c
theorem accV_zero : ∀ (l : List Nat) (c : Nat), accV l c = 0 → c = 0
  | [], c, h => h
  | d :: r, c, h => accV_zero r c (by unfold accV at h; omega)
theorem accV_snoc : ∀ (l : List Nat) (d c : Nat), accV (l ++ [d]) c = accV l (d % 128 + 128 * c)
  | [], d, c => rfl
  | e :: r, d, c => by
    show e % 128 + 128 * accV (r ++ [d]) c = e % 128 + 128 * accV r _
    rw [accV_snoc r d c]
theorem accV_add : ∀ (l : List Nat) (c : Nat), accV l c = accV l 0 + c * 128 ^ l.length
  | [], c => by simp [accV]
  | d :: r, c => by
    show d % 128 + 128 * accV r c = d % 128 + 128 * accV r 0 + c * 128 ^ (r.length + 1)
    rw [accV_add r c, Nat.pow_succ, Nat.mul_add]
    have : 128 * (c * 128 ^ r.length) = c * (128 ^ r.length * 128) := by rw [← Nat.mul_assoc, Nat.mul_comm 128 c, Nat.mul_assoc, Nat.mul_comm 128 (128 ^ r.length)]
    omega
theorem varL_len : ∀ (n : Nat), 1 ≤ (varL n).length := by
  intro n
  unfold varL
  split <;> simp
theorem varL_acc : ∀ (l : List Nat) (c : Nat), (∀ x ∈ l, 128 ≤ x ∧ x ≤ 255) → c ≤ 127 → (varL (accV l c) = l ++ [c] ↔ (l = [] ∨ c ≠ 0))
  | [], c, _, hc => by
    show varL c = [c] ↔ _
    unfold varL
    rw [dif_pos hc]
    simp
  | d :: r, c, hl, hc => by
    have hd := hl d List.mem_cons_self
    have hr : ∀ x ∈ r, 128 ≤ x ∧ x ≤ 255 := fun x hx => hl x (List.mem_cons_of_mem _ hx)
    have ih := varL_acc r c hr hc
    have e : accV (d :: r) c = d % 128 + 128 * accV r c := rfl
    by_cases hm : accV r c = 0
    · have h0 := accV_zero r c hm
      rw [e, hm]
      unfold varL
      rw [dif_pos (by omega)]
      constructor
      · intro h
        have := congrArg List.length h
        simp at this
      · rintro (h | h)
        · cases h
        · exact absurd h0 h
    · rw [e]
      have h1 : (d % 128 + 128 * accV r c) / 128 = accV r c := by omega
      have h2 : (d % 128 + 128 * accV r c) % 128 + 128 = d := by omega
      unfold varL
      rw [dif_neg (by omega), h1, h2]
      constructor
      · intro h
        have h := (List.cons.inj h).2
        rcases ih.1 h with h3 | h3
        · subst h3
          exact .inr (fun h4 => hm h4)
        · exact .inr h3
      · rintro (h | h)
        · cases h
        · show d :: varL (accV r c) = d :: (r ++ [c])
          rw [ih.2 (.inr h)]
def varT (n : Nat) : ByteArray := bstr ((varL n).map fun (x : Nat) => (x : Int))
theorem varT_size1 (n : Nat) : 1 ≤ (varT n).size := by
  unfold varT
  rw [size_bstr, List.length_map]
  exact varL_len n
theorem bl_varT (n : Nat) : bl (varT n) = (varL n).map fun x => UInt8.ofNat x := by
  unfold varT
  rw [bl_bstr, List.map_map]
  rfl
theorem varL_le : ∀ (n : Nat), ∀ x ∈ varL n, x ≤ 255 := by
  intro n
  induction n using varL.induct with
  | case1 n h =>
    intro x hx
    unfold varL at hx
    rw [dif_pos h] at hx
    simp at hx
    omega
  | case2 n h ih =>
    intro x hx
    unfold varL at hx
    rw [dif_neg h] at hx
    rcases List.mem_cons.1 hx with hx | hx
    · omega
    · exact ih x hx
theorem varL_long : ∀ (f n : Nat), n < 128 ^ (f + 1) → (varL n).length ≤ f + 1
  | 0, n, h => by
    unfold varL
    rw [dif_pos (by omega)]
    simp
  | f + 1, n, h => by
    unfold varL
    by_cases hn : n ≤ 127
    · rw [dif_pos hn]; simp
    · rw [dif_neg hn]
      have : n / 128 < 128 ^ (f + 1) := by
        rw [Nat.div_lt_iff_lt_mul (by omega)]
        rw [Nat.pow_succ] at h
        exact h
      have := varL_long f (n / 128) this
      simp only [List.length_cons]
      omega
theorem varT_size {n : Nat} (h : n ≤ 9223372036854775807) : (varT n).size ≤ 10 := by
  unfold varT
  rw [size_bstr, List.length_map]
  exact varL_long 9 n (by omega)
theorem u8_inj {l m : List Nat} (hl : ∀ x ∈ l, x ≤ 255) (hm : ∀ x ∈ m, x ≤ 255) (h : (l.map fun x => UInt8.ofNat x) = m.map fun x => UInt8.ofNat x) : l = m := by
  induction l generalizing m with
  | nil => cases m with
    | nil => rfl
    | cons _ _ => cases h
  | cons x l ih => cases m with
    | nil => cases h
    | cons y m =>
      simp only [List.map_cons, List.cons.injEq] at h
      have h1 := congrArg UInt8.toNat h.1
      have hx := hl x List.mem_cons_self
      have hy := hm y List.mem_cons_self
      simp only [UInt8.toNat_ofNat'] at h1
      have : x = y := by omega
      rw [this, ih (fun z hz => hl z (List.mem_cons_of_mem _ hz)) (fun z hz => hm z (List.mem_cons_of_mem _ hz)) h.2]
/-- The bytes of a text from a place on. -/
def byN (s : ByteArray) (i : Nat) : Nat := if h : i < s.size then (s[i]'h).toNat else 0
theorem byt_byN (s : ByteArray) (i : Nat) : byt s (i : Int) = (byN s i : Int) := by
  unfold byt byN
  simp only [Int.toNat_natCast]
  split <;> rfl
theorem byN_le (s : ByteArray) (i : Nat) : byN s i ≤ 255 := by
  unfold byN
  split
  · have := UInt8.toNat_lt (s[i]'(by assumption)); omega
  · omega
/-- Reading a number: at most five bytes. -/
def rdv (s : ByteArray) (at_ : Nat) : Nat → Nat → Nat → Int × Int × Bool
  | 0, _, _ => (0, 0, false)
  | f + 1, j, n =>
    if at_ + j < s.size then
      if 127 < byN s (at_ + j) then rdv s at_ f (j + 1) (n + byN s (at_ + j) % 128 * 128 ^ j)
      else if (0 < j ∧ byN s (at_ + j) = 0) ∨ 1000000000 < n + byN s (at_ + j) % 128 * 128 ^ j then (0, 0, false)
      else (((n + byN s (at_ + j) % 128 * 128 ^ j : Nat) : Int), ((at_ + j + 1 : Nat) : Int), true)
    else (0, 0, false)
def readV (s : ByteArray) (i : Int) : Int × Int × Bool := if 0 ≤ i ∧ i ≤ (s.size : Int) then rdv s i.toNat 5 0 0 else (0, 0, false)
/-- The bytes that a number takes. -/
def bytN (s : ByteArray) (a : Nat) : Nat → List Nat
  | 0 => []
  | j + 1 => bytN s a j ++ [byN s (a + j)]
theorem bytN_len (s : ByteArray) (a : Nat) : ∀ j, (bytN s a j).length = j
  | 0 => rfl
  | j + 1 => by unfold bytN; rw [List.length_append, bytN_len s a j]; rfl
theorem bl_part (s : ByteArray) (a : Nat) : ∀ (j : Nat), a + j ≤ s.size → bl (s.extract a (a + j)) = (bytN s a j).map fun x => UInt8.ofNat x
  | 0, h => by rw [bl_extract]; simp [bytN]
  | j + 1, h => by
    have ih := bl_part s a j (by omega)
    rw [bl_extract] at ih ⊢
    have hl : a + j < (bl s).length := by rw [bl_len]; omega
    have e : (bl s).take (a + (j + 1)) = (bl s).take (a + j) ++ [(bl s)[a + j]] := by
      rw [← Nat.add_assoc, List.take_succ_eq_append_getElem hl]
    rw [e, List.drop_append_of_le_length (by rw [List.length_take]; omega), ih]
    have e3 : bytN s a (j + 1) = bytN s a j ++ [byN s (a + j)] := rfl
    rw [e3, List.map_append]
    have e2 : UInt8.ofNat (byN s (a + j)) = (bl s)[a + j] := by
      unfold byN
      rw [dif_pos (by omega), UInt8.ofNat_toNat]
      rfl
    rw [List.map_cons, List.map_nil, e2]
/-! ### orders as texts -/
def numberF : ByteArray × Int × Bool → Int × (ByteArray × Int × Bool)
  | (s, i, b) => if b = true then (0, (s, i, true)) else if (readV s i).2.2 = true then ((readV s i).1, (s, (readV s i).2.1, b)) else (0, (s, i, true))
def otext : Order → ByteArray
  | (a, b, c, x) => bstr [wr .u8 a] ++ varT b.toNat ++ varT c.toNat ++ varT x.toNat
def orderT (o : Order) : ByteArray × Bool := if orderOk o = true then sealT (otext o) else (⟨#[]⟩, false)
def readO (t : ByteArray) : Order × Bool :=
  if (unsealT t).2 = true ∧ 0 < (unsealT t).1.size then
    if (numberF (numberF (numberF ((unsealT t).1, 1, false)).2).2).2.2.2 = true then ((0, 0, 0, 0), false)
    else if (numberF (numberF (numberF ((unsealT t).1, 1, false)).2).2).2.2.1 = ((unsealT t).1.size : Int) ∧ orderOk (byt (unsealT t).1 0, (numberF ((unsealT t).1, 1, false)).1, (numberF (numberF ((unsealT t).1, 1, false)).2).1, (numberF (numberF (numberF ((unsealT t).1, 1, false)).2).2).1) = true then ((byt (unsealT t).1 0, (numberF ((unsealT t).1, 1, false)).1, (numberF (numberF ((unsealT t).1, 1, false)).2).1, (numberF (numberF (numberF ((unsealT t).1, 1, false)).2).2).1), true)
    else ((0, 0, 0, 0), false)
  else ((0, 0, 0, 0), false)
theorem varT_part (s : ByteArray) (a j n : Nat) (h : a + j < s.size) (hn : n = accV (bytN s a j) 0) (hb : ∀ x ∈ bytN s a j, 128 ≤ x ∧ x ≤ 255) (hc : byN s (a + j) ≤ 127) :
    varT (n + byN s (a + j) % 128 * 128 ^ j) = s.extract a (a + j + 1) ↔ ¬ (0 < j ∧ byN s (a + j) = 0) := by
  have e1 : n + byN s (a + j) % 128 * 128 ^ j = accV (bytN s a j) (byN s (a + j)) := by
    rw [accV_add, bytN_len, hn, Nat.mod_eq_of_lt (by omega : byN s (a + j) < 128)]
  have e2 := bl_part s a (j + 1) (by omega)
  have e3 : bytN s a (j + 1) = bytN s a j ++ [byN s (a + j)] := rfl
  have e4 := varL_acc (bytN s a j) (byN s (a + j)) hb hc
  have e5 : bytN s a j = [] ↔ j = 0 := by
    rw [← List.length_eq_zero_iff, bytN_len]
  rw [e1]
  have e6 : varT (accV (bytN s a j) (byN s (a + j))) = s.extract a (a + j + 1) ↔ varL (accV (bytN s a j) (byN s (a + j))) = bytN s a j ++ [byN s (a + j)] := by
    constructor
    · intro q
      have q := congrArg bl q
      rw [bl_varT, show a + j + 1 = a + (j + 1) from rfl, e2, e3] at q
      refine u8_inj (varL_le _) ?_ q
      intro x hx
      rcases List.mem_append.1 hx with hx | hx
      · exact (hb x hx).2
      · simp at hx; omega
    · intro q
      apply ba_ext
      rw [bl_varT, q, show a + j + 1 = a + (j + 1) from rfl, e2, e3]
  rw [e6, e4, e5]
  omega
theorem rdv_ok (s : ByteArray) (a : Nat) : ∀ (f j n : Nat), n = accV (bytN s a j) 0 → (∀ x ∈ bytN s a j, 128 ≤ x ∧ x ≤ 255) → (rdv s a f j n).2.2 = true → ∃ N e : Nat, rdv s a f j n = ((N : Int), (e : Int), true) ∧ a ≤ e ∧ e ≤ s.size ∧ varT N = s.extract a e
  | 0, j, n, _, _, h => by cases h
  | f + 1, j, n, hn, hb, h => by
    have hvp := fun h1 h2 => varT_part s a j n h1 hn hb h2
    have hih := fun (h : 127 < byN s (a + j)) => rdv_ok s a f (j + 1) (n + byN s (a + j) % 128 * 128 ^ j) (by
      have e3 : bytN s a (j + 1) = bytN s a j ++ [byN s (a + j)] := rfl
      rw [e3, accV_snoc, accV_add, bytN_len, ← hn]
      rfl) (fun x hx => by
        have hc := byN_le s (a + j)
        rcases List.mem_append.1 hx with hx | hx
        · exact hb x hx
        · rw [List.mem_singleton] at hx
          omega)
    unfold rdv at h ⊢
    generalize n + byN s (a + j) % 128 * 128 ^ j = N at *
    by_cases hlt : a + j < s.size
    · rw [if_pos hlt] at h ⊢
      by_cases h127 : 127 < byN s (a + j)
      · rw [if_pos h127] at h ⊢
        exact hih h127 h
      · rw [if_neg h127] at h ⊢
        by_cases hz : (0 < j ∧ byN s (a + j) = 0) ∨ 1000000000 < N
        · rw [if_pos hz] at h; cases h
        · rw [if_neg hz]
          exact ⟨N, a + j + 1, rfl, by omega, by omega, (hvp hlt (Nat.le_of_not_lt h127)).2 fun q => hz (.inl q)⟩
    · rw [if_neg hlt] at h; cases h
theorem readV_ok {s : ByteArray} {i : Int} (h : (readV s i).2.2 = true) : ∃ a N e : Nat, i = (a : Int) ∧ readV s i = ((N : Int), (e : Int), true) ∧ a ≤ e ∧ e ≤ s.size ∧ varT N = s.extract a e := by
  unfold readV at h ⊢
  by_cases hi : 0 ≤ i ∧ i ≤ (s.size : Int)
  · rw [if_pos hi] at h ⊢
    obtain ⟨a, rfl⟩ := Int.eq_ofNat_of_zero_le hi.1
    rw [Int.toNat_natCast] at h ⊢
    obtain ⟨N, e, h1, h2, h3, h4⟩ := rdv_ok s a 5 0 0 rfl (fun x hx => by cases hx) h
    exact ⟨a, N, e, rfl, h1, h2, h3, h4⟩
  · rw [if_neg hi] at h; cases h
theorem ext_join (s : ByteArray) (a b : Nat) (h : a ≤ b) : s.extract 0 a ++ s.extract a b = s.extract 0 b := by
  apply ba_ext
  rw [bl_append, bl_extract, bl_extract, bl_extract, List.drop_zero, List.drop_zero]
  have : (bl s).take a = ((bl s).take b).take a := by rw [List.take_take, Nat.min_eq_left h]
  rw [this, List.take_append_drop]
theorem ext_one (s : ByteArray) (h : 0 < s.size) : bstr [wr .u8 (byt s 0)] = s.extract 0 1 := by
  apply ba_ext
  have e := bl_part s 0 1 (by omega)
  rw [Nat.zero_add] at e
  rw [e, bl_bstr]
  have e2 : byt s 0 = (byN s 0 : Int) := byt_byN s 0
  have hc := byN_le s 0
  rw [e2]
  have e3 : (((byN s 0 : Nat) : Int) % 256).toNat = byN s 0 := by omega
  show [UInt8.ofNat (((byN s 0 : Nat) : Int) % 256).toNat] = [UInt8.ofNat (byN s (0 + 0))]
  rw [e3]
theorem numberF_ok {s : ByteArray} {i : Int} (h : (numberF (s, i, false)).2.2.2 = false) : ∃ a N e : Nat, i = (a : Int) ∧ numberF (s, i, false) = ((N : Int), (s, (e : Int), false)) ∧ a ≤ e ∧ e ≤ s.size ∧ varT N = s.extract a e := by
  unfold numberF at h ⊢
  simp only [Bool.false_eq_true, if_false] at h ⊢
  by_cases hr : (readV s i).2.2 = true
  · rw [if_pos hr]
    obtain ⟨a, N, e, h1, h2, h3⟩ := readV_ok hr
    rw [h2]
    exact ⟨a, N, e, h1, rfl, h3⟩
  · rw [if_neg hr] at h; cases h
theorem numberF_bad (s : ByteArray) (i : Int) : (numberF (s, i, true)).2.2.2 = true := rfl
theorem numberF_keep (x : ByteArray × Int × Bool) : (numberF x).2.1 = x.1 := by
  obtain ⟨s, i, b⟩ := x
  unfold numberF
  simp only []
  split
  · rfl
  · split <;> rfl
theorem numberF_three {s : ByteArray} (hs : 0 < s.size) (h : (numberF (numberF (numberF (s, 1, false)).2).2).2.2.2 = false) : ∃ N1 N2 N3 e : Nat, (numberF (s, 1, false)).1 = (N1 : Int) ∧ (numberF (numberF (s, 1, false)).2).1 = (N2 : Int) ∧ (numberF (numberF (numberF (s, 1, false)).2).2).1 = (N3 : Int) ∧ (numberF (numberF (numberF (s, 1, false)).2).2).2.2.1 = (e : Int) ∧ e ≤ s.size ∧ otext (byt s 0, (N1 : Int), (N2 : Int), (N3 : Int)) = s.extract 0 e := by
  have b1 : (numberF (s, 1, false)).2.2.2 = false := by
    cases hb : (numberF (s, 1, false)).2.2.2 with
    | false => rfl
    | true =>
      exfalso
      generalize numberF (s, 1, false) = y at hb h
      obtain ⟨n, s', i', b'⟩ := y
      simp only at hb
      subst hb
      have hb2 := numberF_bad s' i'
      generalize numberF (s', i', true) = z at hb2 h
      obtain ⟨n2, s2, i2, b2⟩ := z
      simp only at hb2
      subst hb2
      rw [numberF_bad] at h
      cases h
  obtain ⟨a1, N1, e1, q1, r1, le1, sz1, t1⟩ := numberF_ok b1
  have b2 : (numberF (numberF (s, 1, false)).2).2.2.2 = false := by
    cases hb : (numberF (numberF (s, 1, false)).2).2.2.2 with
    | false => rfl
    | true =>
      exfalso
      generalize numberF (numberF (s, 1, false)).2 = z at hb h
      obtain ⟨n2, s2, i2, b2⟩ := z
      simp only at hb
      subst hb
      rw [numberF_bad] at h
      cases h
  rw [r1] at b2 h ⊢
  obtain ⟨a2, N2, e2, q2, r2, le2, sz2, t2⟩ := numberF_ok b2
  simp only at h ⊢
  rw [r2] at h ⊢
  obtain ⟨a3, N3, e3, q3, r3, le3, sz3, t3⟩ := numberF_ok h
  simp only at ⊢
  rw [r3]
  refine ⟨N1, N2, N3, e3, rfl, rfl, rfl, rfl, sz3, ?_⟩
  have hq1 : a1 = 1 := by omega
  have hq2 : a2 = e1 := by omega
  have hq3 : a3 = e2 := by omega
  subst hq1 hq2 hq3
  unfold otext
  simp only [Int.toNat_natCast]
  rw [t1, t2, t3, ext_one s hs, ext_join s _ _ le1, ext_join s _ _ le2, ext_join s _ _ le3]
theorem unsealT_ok {t : ByteArray} (h : (unsealT t).2 = true) : (unsealT t).1.size ≤ 20000 ∧ (unsealT t).1 ++ four (sumOf (unsealT t).1) = t := by
  unfold unsealT at h ⊢
  by_cases h4 : t.size < 4
  · rw [if_pos h4] at h; cases h
  · rw [if_neg h4] at h ⊢
    by_cases hc : (front t).size ≤ 20000 ∧ front t ++ four (sumOf (front t)) = t
    · rw [if_pos hc]; exact hc
    · rw [if_neg hc] at h; cases h
theorem seal_same (s : ByteArray) (e : Nat) (hs : s.size ≤ 20000) (he : e ≤ s.size) : (sealT (s.extract 0 e)).2 = true ∧ ((sealT (s.extract 0 e)).1 = s ++ four (sumOf s) ↔ e = s.size) := by
  have hz : (s.extract 0 e).size = e := by
    rw [size_bl, bl_extract, List.drop_zero, List.length_take, ← size_bl]; omega
  unfold sealT
  have hn : ¬ 20000 < (s.extract 0 e).size := by omega
  rw [if_neg hn]
  refine ⟨rfl, ?_⟩
  constructor
  · intro q
    have q2 := congrArg ByteArray.size q
    simp only [size_append, four_size] at q2
    omega
  · intro q
    have : s.extract 0 e = s := by
      apply ba_ext
      rw [bl_extract, List.drop_zero, q, size_bl, List.take_length]
    simp only [this]
end Go.Sx
/- Typed numbers. -/
set_option linter.unusedVariables false
set_option linter.unusedSimpArgs false
namespace Go.Sx
open Go.RowKit (wrap64)
def decL (n : Nat) : List Nat :=
  if n < 10 then [48 + n] else if n < 100 then [48 + n / 10, 48 + n % 10] else if n < 1000 then [48 + n / 100, 48 + n / 10 % 10, 48 + n % 10] else [48 + n / 1000, 48 + n / 100 % 10, 48 + n / 10 % 10, 48 + n % 10]
def bn (l : List Nat) : ByteArray := bstr (l.map fun (x : Nat) => (x : Int))
def decT (n : Nat) : ByteArray := bn (decL n)
theorem bl_bn (l : List Nat) : bl (bn l) = l.map UInt8.ofNat := by
  unfold bn
  rw [bl_bstr, List.map_map]
  rfl
theorem bn_append (l m : List Nat) : bn l ++ bn m = bn (l ++ m) := by
  apply ba_ext
  rw [bl_append, bl_bn, bl_bn, bl_bn, List.map_append]
theorem bn_size (l : List Nat) : (bn l).size = l.length := by rw [size_bl, bl_bn, List.length_map]
theorem decL_len {n : Nat} : (decL n).length ≤ 4 := by
  unfold decL
  split
  · simp
  · split
    · simp
    · split <;> simp
theorem decL_dig {n : Nat} (h : n < 10000) : ∀ x ∈ decL n, 48 ≤ x ∧ x ≤ 57 := by
  unfold decL
  intro x hx
  split at hx
  · simp at hx; omega
  · split at hx
    · simp at hx; omega
    · split at hx
      · simp at hx; omega
      · simp at hx; omega
theorem decT_size {n : Nat} : (decT n).size ≤ 4 := by
  unfold decT
  rw [bn_size]
  exact decL_len
theorem fig_step (x z : Nat) (hx : 48 ≤ x ∧ x ≤ 57) (hz : z ≤ 100000) : wrap64 ((wrap64 (10 * (z : Int))) + (((x : Int) - 48) % 256)) = ((10 * z + (x - 48) : Nat) : Int) := by
  have e1 : wrap64 (10 * (z : Int)) = 10 * (z : Int) := w64 (by omega) (by omega)
  have e2 : ((x : Int) - 48) % 256 = ((x - 48 : Nat) : Int) := by omega
  rw [e1, e2]
  have e3 : 10 * (z : Int) + ((x - 48 : Nat) : Int) = ((10 * z + (x - 48) : Nat) : Int) := by omega
  rw [e3]
  exact w64 (by omega) (by omega)
theorem u8_nat (x : Nat) (hx : x ≤ 255) : ((UInt8.ofNat x).toNat : Int) = (x : Int) := by
  rw [UInt8.toNat_ofNat']; omega
theorem numF_step (x : Nat) (hx : 48 ≤ x ∧ x ≤ 57) (l : List UInt8) (z : Nat) (hz : z ≤ 100000) : numF (UInt8.ofNat x :: l) (z : Int) = numF l ((10 * z + (x - 48) : Nat) : Int) := by
  have e := u8_nat x (by omega)
  have e2 := fig_step x z hx hz
  rw [← e] at e2
  rw [← e2, numF]
theorem num_dec {n : Nat} (h : n < 10000) : num (decT n) = (n : Int) := by
  unfold num decT
  rw [bl_bn]
  have hd := decL_dig h
  have z0 : (0 : Int) = ((0 : Nat) : Int) := rfl
  unfold decL at hd ⊢
  rw [z0]
  split
  · rename_i h1
    rw [if_pos h1] at hd
    rw [List.map_cons, numF_step _ (hd _ (by simp)) _ _ (by omega)]
    simp only [List.map_nil, numF]
    omega
  · rename_i h1
    rw [if_neg h1] at hd
    split
    · rename_i h2
      rw [if_pos h2] at hd
      rw [List.map_cons, List.map_cons, numF_step _ (hd _ (by simp)) _ _ (by omega), numF_step _ (hd _ (by simp)) _ _ (by omega)]
      simp only [List.map_nil, numF]
      omega
    · rename_i h2
      rw [if_neg h2] at hd
      split
      · rename_i h3
        rw [if_pos h3] at hd
        rw [List.map_cons, List.map_cons, List.map_cons, numF_step _ (hd _ (by simp)) _ _ (by omega), numF_step _ (hd _ (by simp)) _ _ (by omega), numF_step _ (hd _ (by simp)) _ _ (by omega)]
        simp only [List.map_nil, numF]
        omega
      · rename_i h3
        rw [if_neg h3] at hd
        rw [List.map_cons, List.map_cons, List.map_cons, List.map_cons, numF_step _ (hd _ (by simp)) _ _ (by omega), numF_step _ (hd _ (by simp)) _ _ (by omega), numF_step _ (hd _ (by simp)) _ _ (by omega), numF_step _ (hd _ (by simp)) _ _ (by omega)]
        simp only [List.map_nil, numF]
        omega
theorem digits_bn (l : List Nat) (h : ∀ x ∈ l, 48 ≤ x ∧ x ≤ 57) : digitsOk (bl (bn l)) = true := by
  rw [bl_bn]
  induction l with
  | nil => rfl
  | cons x l ih =>
    rw [List.map_cons, digitsOk_cons, ih (fun y hy => h y (List.mem_cons_of_mem _ hy)), UInt8.toNat_ofNat']
    have := h x List.mem_cons_self
    simp
    omega
/-- Figures that are pressed are kept. -/
theorem press_figs (a n d : Int) (b : Bool) (ha : 2 ≤ a ∧ a ≤ 4) (hn : 0 ≤ n ∧ n ≤ 9999) (hd : 0 ≤ d ∧ d ≤ 9999) (os : List Order) : ∀ (l p : List Nat), (∀ x ∈ p, 48 ≤ x ∧ x ≤ 57) → (∀ x ∈ l, 48 ≤ x ∧ x ≤ 57) → p.length + l.length ≤ 4 →
    pressL (l.map UInt8.ofNat) (a, b, n, d, bn p) os = ((a, b, n, d, bn (p ++ l)), os)
  | [], p, _, _, _ => by rw [List.append_nil]; rfl
  | x :: l, p, hp, hl, hs => by
    have hx := hl x List.mem_cons_self
    simp only [List.length_cons] at hs
    have ih := press_figs a n d b ha hn hd os l (p ++ [x]) (fun y hy => by
      rcases List.mem_append.1 hy with hy | hy
      · exact hp y hy
      · rw [List.mem_singleton] at hy; subst hy; exact hx) (fun y hy => hl y (List.mem_cons_of_mem _ hy)) (by rw [List.length_append, List.length_singleton]; omega)
    have e : ((UInt8.ofNat x).toNat : Int) = (x : Int) := by
      rw [UInt8.toNat_ofNat']; omega
    have hok : menuOk (a, b, n, d, bn p) = true := menuOk_mk ⟨digits_bn p hp, by omega, hn, hd, by rw [bn_size]; omega, fun q => by omega⟩
    have hpr : press (a, b, n, d, bn p) (x : Int) = ((a, b, n, d, bn p ++ bn [x]), (0, 0, 0, 0), false) := by
      unfold press
      simp only []
      have c1 : ¬ a = 1 := by omega
      have c2 : ¬ (x : Int) = 10 := by omega
      have c3 : ¬ (x : Int) = 99 := by omega
      have c4 : (48 ≤ (x : Int) ∧ (x : Int) ≤ 57) ∧ (bn p).size < 4 := ⟨by omega, by rw [bn_size]; omega⟩
      have c5 : (x : Int) % 256 = (x : Int) := by omega
      rw [if_pos hok, if_neg c1, if_neg c2, if_neg c3, if_pos c4, c5]
      rfl
    rw [List.map_cons]
    show pressL (l.map UInt8.ofNat) (press (a, b, n, d, bn p) ((UInt8.ofNat x).toNat : Int)).1 (if (press (a, b, n, d, bn p) ((UInt8.ofNat x).toNat : Int)).2.2 = true then os ++ [(press (a, b, n, d, bn p) ((UInt8.ofNat x).toNat : Int)).2.1] else os) = _
    rw [e, hpr, bn_append]
    rw [List.append_assoc] at ih
    exact ih
theorem press_dec (a n d : Int) (b : Bool) (ha : 2 ≤ a ∧ a ≤ 4) (hn : 0 ≤ n ∧ n ≤ 9999) (hd : 0 ≤ d ∧ d ≤ 9999) (os : List Order) {m : Nat} (hm : m < 10000) :
    pressL (bl (decT m)) (a, b, n, d, ⟨#[]⟩) os = ((a, b, n, d, decT m), os) := by
  unfold decT
  rw [bl_bn]
  exact press_figs a n d b ha hn hd os (decL m) [] (fun x hx => by cases hx) (decL_dig hm) (by have := decL_len (n := m); simpa using this)
theorem menuOk_dec {a n d : Int} {b : Bool} (ha : 2 ≤ a ∧ a ≤ 4) (hn : 0 ≤ n ∧ n ≤ 9999) (hd : 0 ≤ d ∧ d ≤ 9999) {m : Nat} (hm : m < 10000) : menuOk (a, b, n, d, decT m) = true :=
  menuOk_mk ⟨digits_bn _ (decL_dig hm), by omega, hn, hd, decT_size, fun q => by omega⟩
theorem press_one (c : Nat) (m m' : Menu) (os : List Order) (hc : c < 256) (h : (press m (c : Int)).1 = m') (h2 : (press m (c : Int)).2.2 = false) : pressL (bl (bn [c])) m os = (m', os) := by
  rw [bl_bn]
  have e : ((UInt8.ofNat c).toNat : Int) = (c : Int) := by
    rw [UInt8.toNat_ofNat']; omega
  show pressL [] (press m ((UInt8.ofNat c).toNat : Int)).1 (if (press m ((UInt8.ofNat c).toNat : Int)).2.2 = true then os ++ [(press m ((UInt8.ofNat c).toNat : Int)).2.1] else os) = _
  rw [e, h, h2]
  rfl
theorem press_last (c : Nat) (m : Menu) (os : List Order) (hc : c < 256) (k n d x : Int) (h : press m (c : Int) = sent k n d x) : pressL (bl (bn [c])) m os = (menuNew, os ++ (if orderOk (k, n, d, x) = true then [(k, n, d, x)] else [])) := by
  rw [bl_bn]
  have e : ((UInt8.ofNat c).toNat : Int) = (c : Int) := by
    rw [UInt8.toNat_ofNat']; omega
  show pressL [] (press m ((UInt8.ofNat c).toNat : Int)).1 (if (press m ((UInt8.ofNat c).toNat : Int)).2.2 = true then os ++ [(press m ((UInt8.ofNat c).toNat : Int)).2.1] else os) = _
  rw [e, h]
  unfold sent
  by_cases ho : orderOk (k, n, d, x) = true
  · rw [if_pos ho, if_pos ho]; rfl
  · rw [if_neg ho, if_neg ho]; simp [pressL]
theorem new_b : press menuNew 98 = ((2, false, 0, 0, ⟨#[]⟩), (0, 0, 0, 0), false) := by
  have h : menuOk menuNew = true := menuNew_ok
  unfold menuNew at h ⊢
  unfold press
  simp only []
  rw [if_pos h]
  simp
theorem new_o : press menuNew 111 = ((4, true, 0, 0, ⟨#[]⟩), (0, 0, 0, 0), false) := by
  have h : menuOk menuNew = true := menuNew_ok
  unfold menuNew at h ⊢
  unfold press
  simp only []
  rw [if_pos h]
  simp
theorem pressAll_basal {n1 n2 n3 : Nat} (h1 : n1 < 10000) (h2 : n2 < 10000) (h3 : n3 < 10000) :
    pressAll menuNew (bn [98] ++ decT n1 ++ bn [10] ++ decT n2 ++ bn [10] ++ decT n3 ++ bn [10]) = (menuNew, if orderOk (1, (n1 : Int), (n2 : Int), (n3 : Int)) = true then [(1, (n1 : Int), (n2 : Int), (n3 : Int))] else []) := by
  unfold pressAll
  simp only [bl_append, pressL_app]
  rw [press_one 98 menuNew (2, false, 0, 0, ⟨#[]⟩) [] (by omega) (by rw [show ((98 : Nat) : Int) = 98 from rfl, new_b]) (by rw [show ((98 : Nat) : Int) = 98 from rfl, new_b])]
  simp only []
  rw [press_dec 2 0 0 false (by omega) (by omega) (by omega) [] h1]
  simp only []
  have p2 : press (2, false, 0, 0, decT n1) ((10 : Nat) : Int) = ((3, false, (n1 : Int), 0, ⟨#[]⟩), (0, 0, 0, 0), false) := by
    have hok := menuOk_dec (a := 2) (n := 0) (d := 0) (b := false) (by omega) (by omega) (by omega) h1
    unfold press
    simp only []
    rw [if_pos hok]
    simp [num_dec h1]
  rw [press_one 10 _ (3, false, (n1 : Int), 0, ⟨#[]⟩) [] (by omega) (by rw [p2]) (by rw [p2])]
  simp only []
  rw [press_dec 3 (n1 : Int) 0 false (by omega) (by omega) (by omega) [] h2]
  simp only []
  have p3 : press (3, false, (n1 : Int), 0, decT n2) ((10 : Nat) : Int) = ((4, false, (n1 : Int), (n2 : Int), ⟨#[]⟩), (0, 0, 0, 0), false) := by
    have hok := menuOk_dec (a := 3) (n := (n1 : Int)) (d := 0) (b := false) (by omega) (by omega) (by omega) h2
    unfold press
    simp only []
    rw [if_pos hok]
    simp [num_dec h2]
  rw [press_one 10 _ (4, false, (n1 : Int), (n2 : Int), ⟨#[]⟩) [] (by omega) (by rw [p3]) (by rw [p3])]
  simp only []
  rw [press_dec 4 (n1 : Int) (n2 : Int) false (by omega) (by omega) (by omega) [] h3]
  simp only []
  have p4 : press (4, false, (n1 : Int), (n2 : Int), decT n3) ((10 : Nat) : Int) = sent 1 (n1 : Int) (n2 : Int) (n3 : Int) := by
    have hok := menuOk_dec (a := 4) (n := (n1 : Int)) (d := (n2 : Int)) (b := false) (by omega) (by omega) (by omega) h3
    unfold press
    simp only []
    rw [if_pos hok]
    simp [num_dec h3]
  rw [press_last 10 _ [] (by omega) _ _ _ _ p4]
  rfl
theorem pressAll_bolus {n : Nat} (h : n < 10000) : pressAll menuNew (bn [111] ++ decT n ++ bn [10]) = (menuNew, if orderOk (2, 0, 0, (n : Int)) = true then [(2, 0, 0, (n : Int))] else []) := by
  unfold pressAll
  simp only [bl_append, pressL_app]
  rw [press_one 111 menuNew (4, true, 0, 0, ⟨#[]⟩) [] (by omega) (by rw [show ((111 : Nat) : Int) = 111 from rfl, new_o]) (by rw [show ((111 : Nat) : Int) = 111 from rfl, new_o])]
  simp only []
  rw [press_dec 4 0 0 true (by omega) (by omega) (by omega) [] h]
  simp only []
  have p4 : press (4, true, 0, 0, decT n) ((10 : Nat) : Int) = sent 2 0 0 (n : Int) := by
    have hok := menuOk_dec (a := 4) (n := 0) (d := 0) (b := true) (by omega) (by omega) (by omega) h
    unfold press
    simp only []
    rw [if_pos hok]
    simp [num_dec h]
  rw [press_last 10 _ [] (by omega) _ _ _ _ p4]
  rfl
theorem pressAll_b12c : pressAll menuNew (bn [98, 49, 50, 99]) = (menuNew, []) := by
  have e : bn [98, 49, 50, 99] = bn [98] ++ bn [49, 50] ++ bn [99] := by rw [bn_append, bn_append]; rfl
  rw [e]
  unfold pressAll
  simp only [bl_append, pressL_app]
  rw [press_one 98 menuNew (2, false, 0, 0, ⟨#[]⟩) [] (by omega) (by rw [show ((98 : Nat) : Int) = 98 from rfl, new_b]) (by rw [show ((98 : Nat) : Int) = 98 from rfl, new_b])]
  simp only []
  have hd : ∀ x ∈ [49, 50], 48 ≤ x ∧ x ≤ 57 := by simp
  have h2 := press_figs 2 0 0 false (by omega) (by omega) (by omega) [] [49, 50] [] (fun x hx => by cases hx) hd (by simp)
  have e0 : bn ([] : List Nat) = ⟨#[]⟩ := rfl
  rw [e0] at h2
  rw [← bl_bn] at h2
  rw [h2]
  simp only [List.nil_append]
  have p4 : press (2, false, 0, 0, bn [49, 50]) ((99 : Nat) : Int) = (menuNew, (0, 0, 0, 0), false) := by
    have hok : menuOk (2, false, 0, 0, bn [49, 50]) = true := menuOk_mk ⟨digits_bn _ hd, by omega, by omega, by omega, by rw [bn_size]; simp, fun q => by omega⟩
    unfold press
    simp only []
    rw [if_pos hok]
    simp
  rw [press_one 99 _ menuNew [] (by omega) (by rw [p4]) (by rw [p4])]
end Go.Sx
/- One tick of the device: what it comes to. -/
set_option linter.unusedVariables false
set_option linter.unusedSimpArgs false
namespace Go.Sx
open Go.RowKit (wrap64)
def inOk (i : In) : Bool := senseOk i.1 && (decide (i.2.1.size ≤ 20) && decide (i.2.2.size ≤ 40))
def seenF (os : List Order) : Bool := os.any fun o => decide (o.1 = 5)
def ordersOf (m : Menu) (i : In) : Menu × List Order :=
  if (readO i.2.2).2 = true then ((pressAll m i.2.1).1, (pressAll m i.2.1).2 ++ [(readO i.2.2).1]) else pressAll m i.2.1
def takeO (p : Pump) (o : Order) : Pump × Bool := if o.1 = 5 then (p, true) else take p o
def takeL : List Order → Pump → Int → Pump × Int
  | [], p, r => (p, r)
  | o :: os, p, r => takeL os (takeO p o).1 (if (takeO p o).2 = true then r else r + 1)
/-- The pump and the number of refusals behind the orders. -/
def behind (p : Pump) (m : Menu) (ref : Int) (i : In) : Pump × Int :=
  ((takeL (ordersOf m i).2 p ref).1, if i.2.2.size ≠ 0 ∧ (readO i.2.2).2 = false then (takeL (ordersOf m i).2 p ref).2 + 1 else (takeL (ordersOf m i).2 p ref).2)
def tickP (q : Pump) (past : List Int) (al : Int) : Pump := if al = 0 then give q (allow past al (wants q)) else q
def tickD (p : Pump) (past : List Int) (alarm : Int) (m : Menu) (ts : List Tick) (ref : Int) (i : In) : Device :=
  if deviceOk p past alarm m ts ref = true ∧ inOk i = true ∧ ts.length ≠ 200 ∧ ref ≤ 999999900 then
    (let al := feel past alarm i.1 (seenF (ordersOf m i).2)
     let q := (behind p m ref i).1
     let n := allow past al (wants q)
     dev (tickP q past al) (pass past al n) al (ordersOf m i).1 (ts ++ [(n, al, (tickP q past al).1)]) (behind p m ref i).2)
  else dev p past alarm m ts ref
theorem inOk_den {i : In} (h : inOk i = true) : senseOk i.1 = true ∧ i.2.1.size ≤ 20 ∧ i.2.2.size ≤ 40 := by
  unfold inOk at h
  simp only [Bool.and_eq_true, decide_eq_true_eq] at h
  exact h
theorem ordersOf_len (m : Menu) (i : In) : (ordersOf m i).2.length ≤ i.2.1.size + 1 := by
  have h := pressAll_len m i.2.1
  unfold ordersOf
  split
  · simp only [List.length_append, List.length_singleton]; omega
  · omega
theorem ordersOf_menu (m : Menu) (i : In) : (ordersOf m i).1 = (pressAll m i.2.1).1 := by
  unfold ordersOf
  split <;> rfl
theorem takeO_ok {p : Pump} (o : Order) (h : pumpOk p = true) : pumpOk (takeO p o).1 = true := by
  unfold takeO
  split
  · exact h
  · exact take_ok o h
theorem takeL_ok : ∀ (os : List Order) (p : Pump) (r : Int), pumpOk p = true → pumpOk (takeL os p r).1 = true ∧ r ≤ (takeL os p r).2 ∧ (takeL os p r).2 ≤ r + os.length
  | [], p, r, h => ⟨h, Int.le_refl _, by simp [takeL]⟩
  | o :: os, p, r, h => by
    obtain ⟨h1, h2, h3⟩ := takeL_ok os (takeO p o).1 (if (takeO p o).2 = true then r else r + 1) (takeO_ok o h)
    refine ⟨h1, ?_, ?_⟩
    · refine Int.le_trans ?_ h2
      split <;> omega
    · refine Int.le_trans h3 ?_
      simp only [List.length_cons]
      split <;> omega
theorem behind_ok {p : Pump} {m : Menu} {ref : Int} {i : In} (h : pumpOk p = true) (hi : inOk i = true) : pumpOk (behind p m ref i).1 = true ∧ ref ≤ (behind p m ref i).2 ∧ (behind p m ref i).2 ≤ ref + 22 := by
  obtain ⟨h1, h2, h3⟩ := takeL_ok (ordersOf m i).2 p ref h
  have h4 := ordersOf_len m i
  have h5 := (inOk_den hi).2.1
  refine ⟨h1, ?_, ?_⟩
  · unfold behind
    simp only []
    split <;> omega
  · unfold behind
    simp only []
    split <;> omega
theorem tickP_ok {q : Pump} (past : List Int) (al : Int) (h : pumpOk q = true) : pumpOk (tickP q past al) = true := by
  unfold tickP
  split
  · exact give_ok _ h
  · exact h
/-- A right device stays right. -/
theorem tickD_ok {p : Pump} {past : List Int} {alarm : Int} {m : Menu} {ts : List Tick} {ref : Int} (i : In) (h : deviceOk p past alarm m ts ref = true) :
    ∃ p' past' alarm' m' ts' ref', tickD p past alarm m ts ref i = dev p' past' alarm' m' ts' ref' ∧ deviceOk p' past' alarm' m' ts' ref' = true := by
  unfold tickD
  split
  · rename_i hc
    obtain ⟨h1, h2, h3, h4, h5, h6⟩ := deviceOk_den h
    obtain ⟨b1, b2, b3⟩ := behind_ok (m := m) (ref := ref) h1 hc.2.1
    have hg := guardOk_feel i.1 (seenF (ordersOf m i).2) h2
    have hm := (pressAll_ok h3 i.2.1).1
    refine ⟨_, _, _, _, _, _, rfl, deviceOk_mk (tickP_ok _ _ b1) (guardOk_pass _ hg) ?_ ?_ ⟨by omega, by omega⟩⟩
    · rw [ordersOf_menu]; exact hm
    · simp only [List.length_append, List.length_singleton]
      omega
  · exact ⟨_, _, _, _, _, _, rfl, h⟩
/-! ### the device over many ticks -/
def tick (d : Device) (i : In) : Device := tickD d.pump d.past d.alarm d.menu d.ticks d.refused i
def devNew : Device := dev (0, 0, 1, 0, 0, 0, 0, 0) [] 0 menuNew [] 0
def devZero : Device := dev (0, 0, 0, 0, 0, 0, 0, 0) [] 0 (0, false, 0, 0, ⟨#[]⟩) [] 0
def DOk (d : Device) : Prop := ∃ p past alarm m ts ref, d = dev p past alarm m ts ref ∧ deviceOk p past alarm m ts ref = true
theorem tick_dev (p : Pump) (past : List Int) (alarm : Int) (m : Menu) (ts : List Tick) (ref : Int) (i : In) : tick (dev p past alarm m ts ref) i = tickD p past alarm m ts ref i := rfl
theorem DOk.tick {d : Device} (i : In) (h : DOk d) : DOk (tick d i) := by
  obtain ⟨p, past, alarm, m, ts, ref, rfl, h⟩ := h
  rw [tick_dev]
  exact tickD_ok i h
theorem devNew_ok : DOk devNew := ⟨_, _, _, _, _, _, rfl, deviceOk_mk pumpNew_ok rfl menuNew_ok (Nat.zero_le _) (by omega)⟩
theorem DOk.foldl : ∀ (l : List In) {d : Device}, DOk d → DOk (l.foldl Go.Sx.tick d)
  | [], _, h => h
  | i :: l, _, h => DOk.foldl l (h.tick i)
def runD (l : List In) : Device × Bool := if 150 < l.length then (devZero, false) else if l.all inOk = true then (l.foldl tick devNew, true) else (devZero, false)
end Go.Sx
/- A life of the device: what is true behind many ticks. -/
set_option linter.unusedVariables false
set_option linter.unusedSimpArgs false
namespace Go.Sx
open Go.RowKit (wrap64)
def pulses (ts : List Tick) : List Int := ts.map (·.1)
theorem pulses_append (a b : List Tick) : pulses (a ++ b) = pulses a ++ pulses b := by unfold pulses; rw [List.map_append]
theorem pulses_len (a : List Tick) : (pulses a).length = a.length := by unfold pulses; rw [List.length_map]
/-! ### sums of parts -/
theorem sum_drop_le {l : List Int} (n : Nat) (h : ∀ x ∈ l, 0 ≤ x) : (l.drop n).sum ≤ l.sum := by
  have e : l.sum = (l.take n).sum + (l.drop n).sum := by
    rw [← List.sum_append, List.take_append_drop]
  have h2 := sum_nonneg (l := l.take n) (fun x hx => h x (List.mem_of_mem_take hx))
  omega
theorem win_snoc {l : List Int} {n : Int} (h0 : ∀ x ∈ l, 0 ≤ x) (hn : 0 ≤ n) (hr : ((l.reverse).take 9).sum + n ≤ 30) (hw : ∀ i, ((l.drop i).take 10).sum ≤ 30) (i : Nat) : (((l ++ [n]).drop i).take 10).sum ≤ 30 := by
  by_cases h1 : i + 10 ≤ l.length
  · have e : ((l ++ [n]).drop i).take 10 = (l.drop i).take 10 := by
      rw [List.drop_append_of_le_length (by omega), List.take_append_of_le_length (by rw [List.length_drop]; omega)]
    rw [e]; exact hw i
  · by_cases h2 : i ≤ l.length
    · have e : ((l ++ [n]).drop i).take 10 = l.drop i ++ [n] := by
        rw [List.drop_append_of_le_length h2, List.take_of_length_le (by rw [List.length_append, List.length_drop, List.length_singleton]; omega)]
      have e2 : ((l.reverse).take 9).sum = (l.drop (l.length - 9)).sum := by
        rw [List.take_reverse, List.sum_reverse]
      have e3 : l.drop i = (l.drop (l.length - 9)).drop (i - (l.length - 9)) := by
        rw [List.drop_drop]; congr 1; omega
      have h3 := sum_drop_le (i - (l.length - 9)) (l := l.drop (l.length - 9)) (fun x hx => h0 x (List.mem_of_mem_drop hx))
      rw [e, List.sum_append, e3]
      simp only [List.sum_cons, List.sum_nil]
      omega
    · rw [List.drop_of_length_le (by rw [List.length_append, List.length_singleton]; omega)]
      simp
/-! ### the pump's count -/
theorem take_given (p : Pump) (o : Order) : (take p o).1.2.2.2.2.2.2.1 = p.2.2.2.2.2.2.1 := by
  obtain ⟨s, n, d, r, l, b, g, k⟩ := p
  obtain ⟨a, c, e, x⟩ := o
  unfold take
  split
  · cases ht : takeR (s, n, d, r, l, b, g, k) (a, c, e, x) with
    | none => rfl
    | some q =>
      show q.2.2.2.2.2.2.1 = g
      simp only [takeR] at ht
      repeat' split at ht
      all_goals first
        | (obtain rfl := Option.some.inj ht; rfl)
        | cases ht
  · rfl
theorem takeL_given : ∀ (os : List Order) (p : Pump) (r : Int), (takeL os p r).1.2.2.2.2.2.2.1 = p.2.2.2.2.2.2.1
  | [], _, _ => rfl
  | o :: os, p, r => by
    have h := takeL_given os (takeO p o).1 (if (takeO p o).2 = true then r else r + 1)
    have e : (takeO p o).1.2.2.2.2.2.2.1 = p.2.2.2.2.2.2.1 := by
      unfold takeO
      split
      · rfl
      · exact take_given p o
    rw [e] at h
    exact h
theorem behind_given (p : Pump) (m : Menu) (ref : Int) (i : In) : (behind p m ref i).1.2.2.2.2.2.2.1 = p.2.2.2.2.2.2.1 := takeL_given _ p ref
theorem allow_range {past : List Int} {al : Int} (q : Pump) (h : guardOk past al = true) : 0 ≤ allow past al (wants q) ∧ allow past al (wants q) ≤ wants q ∧ allow past al (wants q) ≤ 30 - past.sum ∧ (al ≠ 0 → allow past al (wants q) = 0) := by
  have hs := guardOk_sum h
  have hw := wants_range q
  unfold allow
  split <;> omega
theorem not_runs_wants {q : Pump} (h : ¬ runs q = true) : wants q = 0 := by
  obtain ⟨s, n, d, r, l, b, g, k⟩ := q
  simp only [wants]
  rw [if_neg h]
theorem tickP_given {q : Pump} {past : List Int} {al : Int} (hq : pumpOk q = true) (h : guardOk past al = true) (hg : q.2.2.2.2.2.2.1 ≤ 100000000000) : (tickP q past al).2.2.2.2.2.2.1 = q.2.2.2.2.2.2.1 + allow past al (wants q) := by
  obtain ⟨a1, a2, a3, a4⟩ := allow_range q h
  have hw := wants_range q
  unfold tickP
  split
  · rw [give_given q _ hq]
    split
    · have e : giveN q (allow past al (wants q)) = allow past al (wants q) := by unfold giveN; omega
      rw [e]; omega
    · rename_i hr
      have := not_runs_wants hr
      omega
  · rename_i hz
    have := a4 hz
    omega
/-! ### a life -/
structure Life (n : Nat) (d : Device) : Prop where
  ok : DOk d
  len : d.ticks.length = n
  ref0 : 0 ≤ d.refused
  ref : d.refused ≤ 22 * (n : Int)
  past : d.past = ((pulses d.ticks).reverse).take 9
  rng : ∀ x ∈ pulses d.ticks, 0 ≤ x ∧ x ≤ 30
  win : ∀ i, (((pulses d.ticks).drop i).take 10).sum ≤ 30
  stop : stops d.ticks = true
  given : d.pump.2.2.2.2.2.2.1 = (pulses d.ticks).sum
theorem stops_append (a b : List Tick) : stops (a ++ b) = (stops a && stops b) := by simp [stops]
theorem tickD_live {p : Pump} {past : List Int} {alarm : Int} {m : Menu} {ts : List Tick} {ref : Int} {i : In} (h : deviceOk p past alarm m ts ref = true) (hi : inOk i = true) (hl : ts.length ≠ 200) (hr : ref ≤ 999999900) :
    tickD p past alarm m ts ref i = dev (tickP (behind p m ref i).1 past (feel past alarm i.1 (seenF (ordersOf m i).2))) (pass past (feel past alarm i.1 (seenF (ordersOf m i).2)) (allow past (feel past alarm i.1 (seenF (ordersOf m i).2)) (wants (behind p m ref i).1))) (feel past alarm i.1 (seenF (ordersOf m i).2)) (ordersOf m i).1
      (ts ++ [(allow past (feel past alarm i.1 (seenF (ordersOf m i).2)) (wants (behind p m ref i).1), feel past alarm i.1 (seenF (ordersOf m i).2), (tickP (behind p m ref i).1 past (feel past alarm i.1 (seenF (ordersOf m i).2))).1)]) (behind p m ref i).2 := by
  unfold tickD
  rw [if_pos ⟨h, hi, hl, hr⟩]
theorem sum_le_30 {l : List Int} (h : ∀ x ∈ l, 0 ≤ x ∧ x ≤ 30) : 0 ≤ l.sum ∧ l.sum ≤ 30 * l.length := by
  induction l with
  | nil => simp
  | cons x l ih =>
    have := ih (fun y hy => h y (List.mem_cons_of_mem _ hy))
    have := h x List.mem_cons_self
    simp only [List.sum_cons, List.length_cons]
    omega
theorem Life.tick {n : Nat} {d : Device} (h : Life n d) {i : In} (hi : inOk i = true) (hn : n < 150) : Life (n + 1) (tick d i) := by
  obtain ⟨hok, hlen, href0, href, hpast, hrng, hwin, hstop, hgiven⟩ := h
  have hok2 := hok.tick i
  obtain ⟨p, past, alarm, m, ts, ref, rfl, hd⟩ := hok
  have hlen : ts.length = n := hlen
  have href : ref ≤ 22 * (n : Int) := href
  have href0 : 0 ≤ ref := href0
  have hpast : past = ((pulses ts).reverse).take 9 := hpast
  have hrng : ∀ x ∈ pulses ts, 0 ≤ x ∧ x ≤ 30 := hrng
  have hwin : ∀ i, (((pulses ts).drop i).take 10).sum ≤ 30 := hwin
  have hstop : stops ts = true := hstop
  have hgiven : p.2.2.2.2.2.2.1 = (pulses ts).sum := hgiven
  have hs := sum_le_30 hrng
  rw [pulses_len] at hs
  rw [tick_dev] at hok2 ⊢
  rw [tickD_live hd hi (by omega) (by omega)] at hok2 ⊢
  obtain ⟨q1, q2, q3, q4, q5, q6⟩ := deviceOk_den hd
  obtain ⟨b1, b2, b3⟩ := behind_ok (m := m) (ref := ref) q1 hi
  have bg := behind_given p m ref i
  have hg := guardOk_feel i.1 (seenF (ordersOf m i).2) q2
  generalize feel past alarm i.1 (seenF (ordersOf m i).2) = al at *
  generalize (behind p m ref i).1 = q at *
  generalize (behind p m ref i).2 = ref' at *
  obtain ⟨a1, a2, a3, a4⟩ := allow_range q hg
  have htp := tickP_given b1 hg (by omega)
  have hsum := guardOk_sum hg
  have hw := wants_range q
  generalize allow past al (wants q) = N at *
  have ep : pass past al N = (N :: past).take 9 := by
    unfold pass
    rw [if_pos hg]
    have : min (max N 0) (30 - past.sum) = N := by omega
    rw [this]
  have hpl : pulses (ts ++ [(N, al, (tickP q past al).1)]) = pulses ts ++ [N] := by rw [pulses_append]; rfl
  refine ⟨hok2, ?_, ?_, ?_, ?_, ?_, ?_, ?_, ?_⟩
  · show (ts ++ [(N, al, (tickP q past al).1)]).length = n + 1
    rw [List.length_append, List.length_singleton]; omega
  · show 0 ≤ ref'
    omega
  · show ref' ≤ 22 * ((n + 1 : Nat) : Int)
    omega
  · show pass past al N = ((pulses (ts ++ [(N, al, (tickP q past al).1)])).reverse).take 9
    rw [hpl, ep, hpast, List.reverse_append, List.reverse_singleton, List.singleton_append, List.take_succ_cons, List.take_succ_cons, List.take_take]
    rfl
  · show ∀ x ∈ pulses (ts ++ [(N, al, (tickP q past al).1)]), 0 ≤ x ∧ x ≤ 30
    rw [hpl]
    intro x hx
    rcases List.mem_append.1 hx with hx | hx
    · exact hrng x hx
    · rw [List.mem_singleton] at hx; omega
  · show ∀ i, (((pulses (ts ++ [(N, al, (tickP q past al).1)])).drop i).take 10).sum ≤ 30
    rw [hpl]
    exact win_snoc (fun x hx => (hrng x hx).1) a1 (by rw [← hpast]; omega) hwin
  · show stops (ts ++ [(N, al, (tickP q past al).1)]) = true
    rw [stops_append, hstop, stops_cons]
    have : (al = 0 ∨ N = 0) := by
      by_cases hz : al = 0
      · exact .inl hz
      · exact .inr (a4 hz)
    rw [decide_eq_true this]; rfl
  · show (tickP q past al).2.2.2.2.2.2.1 = (pulses (ts ++ [(N, al, (tickP q past al).1)])).sum
    rw [hpl, List.sum_append, htp, bg, hgiven]
    simp
theorem life_new : Life 0 devNew := by
  refine ⟨devNew_ok, rfl, Int.le_refl _, Int.le_refl _, rfl, ?_, ?_, rfl, rfl⟩
  · intro x hx
    have hx : x ∈ ([] : List Int) := hx
    cases hx
  · intro i
    show ((([] : List Int).drop i).take 10).sum ≤ 30
    simp
theorem Life.foldl : ∀ (l : List In) {n : Nat} {d : Device}, Life n d → l.all inOk = true → n + l.length ≤ 150 → Life (n + l.length) (l.foldl Go.Sx.tick d)
  | [], _, _, h, _, _ => h
  | i :: l, n, d, h, hi, hn => by
    have hi : (inOk i && l.all inOk) = true := hi
    rw [Bool.and_eq_true] at hi
    simp only [List.length_cons] at hn
    have := Life.foldl l (h.tick hi.1 (by omega)) hi.2 (by omega)
    rw [List.length_cons, show n + (l.length + 1) = n + 1 + l.length by omega]
    exact this
theorem life_run {l : List In} (hi : l.all inOk = true) (hn : l.length ≤ 150) : Life l.length (l.foldl tick devNew) := by
  have := life_new.foldl l hi (by omega)
  rwa [Nat.zero_add] at this
theorem runD_ok {l : List In} (hi : l.all inOk = true) (hn : l.length ≤ 150) : runD l = (l.foldl tick devNew, true) := by
  unfold runD
  rw [if_neg (by omega), if_pos hi]
/-! ### what a life is sound for -/
theorem addSat_small {a b : Int} (ha : 0 ≤ a ∧ a ≤ 100000000000) (hb : 0 ≤ b ∧ b ≤ 30) : addSat a b = a + b := by
  unfold addSat
  rw [bnd_id (n := a) (by omega), bnd_id (n := b) (by omega), bnd_id (by omega)]
theorem totalF_sum : ∀ (ts : List Tick) (s : Int), (∀ x ∈ pulses ts, 0 ≤ x ∧ x ≤ 30) → 0 ≤ s → s + 30 * (ts.length : Int) ≤ 100000000000 → totalF ts s = s + (pulses ts).sum
  | [], s, _, _, _ => by simp [totalF, pulses]
  | t :: r, s, h, h0, h1 => by
    have ht : 0 ≤ t.1 ∧ t.1 ≤ 30 := h t.1 (by unfold pulses; exact List.mem_cons_self)
    have hr : ∀ x ∈ pulses r, 0 ≤ x ∧ x ≤ 30 := fun x hx => h x (by unfold pulses at hx ⊢; exact List.mem_cons_of_mem _ hx)
    simp only [List.length_cons] at h1
    have e : pulses (t :: r) = t.1 :: pulses r := rfl
    unfold totalF
    rw [addSat_small (by omega) ht, totalF_sum r _ hr (by omega) (by omega), e, List.sum_cons]
    omega
theorem winF_true : ∀ (ts : List Tick) (s : Int), (∀ x ∈ pulses ts, 0 ≤ x ∧ x ≤ 30) → 0 ≤ s → s + (pulses ts).sum ≤ 30 → winF ts s = true
  | [], _, _, _, _ => rfl
  | t :: r, s, h, h0, h1 => by
    have ht : 0 ≤ t.1 ∧ t.1 ≤ 30 := h t.1 (by unfold pulses; exact List.mem_cons_self)
    have hr : ∀ x ∈ pulses r, 0 ≤ x ∧ x ≤ 30 := fun x hx => h x (by unfold pulses at hx ⊢; exact List.mem_cons_of_mem _ hx)
    have e : pulses (t :: r) = t.1 :: pulses r := rfl
    rw [e, List.sum_cons] at h1
    have hs := sum_le_30 hr
    unfold winF
    rw [addSat_small (by omega) ht, if_neg (by omega)]
    exact winF_true r _ hr (by omega) (by omega)
theorem pulses_take (ts : List Tick) (n : Nat) : pulses (ts.take n) = (pulses ts).take n := by unfold pulses; rw [List.map_take]
theorem pulses_drop (ts : List Tick) (n : Nat) : pulses (ts.drop n) = (pulses ts).drop n := by unfold pulses; rw [List.map_drop]
theorem limF_true : ∀ (ts : List Tick), (∀ x ∈ pulses ts, 0 ≤ x ∧ x ≤ 30) → (∀ i, (((pulses ts).drop i).take 10).sum ≤ 30) → limF ts = true
  | [], _, _ => rfl
  | t :: r, h, hw => by
    have hr : ∀ x ∈ pulses r, 0 ≤ x ∧ x ≤ 30 := fun x hx => h x (by unfold pulses at hx ⊢; exact List.mem_cons_of_mem _ hx)
    have ih := limF_true r hr (fun i => by have := hw (i + 1); exact this)
    have h0 := hw 0
    unfold limF
    rw [ih, Bool.and_true]
    refine winF_true _ 0 (fun x hx => ?_) (Int.le_refl _) ?_
    · rw [pulses_take] at hx
      exact h x (List.mem_of_mem_take hx)
    · rw [pulses_take, Int.zero_add]
      exact h0
theorem Life.lim {n : Nat} {d : Device} (h : Life n d) : limF d.ticks = true := limF_true _ h.rng h.win
theorem Life.total {n : Nat} {d : Device} (h : Life n d) (hn : n ≤ 150) : totalF d.ticks 0 = (pulses d.ticks).sum := by
  rw [totalF_sum _ 0 h.rng (Int.le_refl _) (by rw [h.len]; omega), Int.zero_add]
theorem Life.sound {n : Nat} {d : Device} (h : Life n d) (hn : n ≤ 150) : ∃ p past alarm m ts ref, d = dev p past alarm m ts ref ∧ deviceOk p past alarm m ts ref = true ∧ sound p past alarm m ts ref = true := by
  obtain ⟨p, past, alarm, m, ts, ref, rfl, hd⟩ := h.ok
  refine ⟨p, past, alarm, m, ts, ref, rfl, hd, ?_⟩
  have h1 : limF ts = true := h.lim
  have h2 : stops ts = true := h.stop
  have h3 : totalF ts 0 = (pulses ts).sum := h.total hn
  have h4 : p.2.2.2.2.2.2.1 = (pulses ts).sum := h.given
  unfold Go.Sx.sound
  rw [hd, h1, h2, h3, h4]
  simp
end Go.Sx
/- Alarms that are held over many ticks. -/
set_option linter.unusedVariables false
set_option linter.unusedSimpArgs false
namespace Go.Sx
open Go.RowKit (wrap64)
/-- One tick's alarm, beside what was felt and the alarm ahead. -/
def latC (al bits ahead : Int) (seen : Bool) : Bool := senseOk bits && (senseOk al && (decide (ior .i64 al bits = al) && (seen || decide (ior .i64 al ahead = al))))
def latF : List Tick → List In → Menu → Int → Bool
  | t :: ts, i :: is, m, a => latC t.2.1 i.1 a (seenF (ordersOf m i).2) && latF ts is (ordersOf m i).1 t.2.1
  | _, _, _, _ => true
def latched (ts : List Tick) (is : List In) : Bool := decide (ts.length = is.length) && latF ts is menuNew 0
/-- The ticks that are put to a device's. -/
def newT : Device → List In → List Tick
  | _, [] => []
  | d, i :: l => (allow d.past (feel d.past d.alarm i.1 (seenF (ordersOf d.menu i).2)) (wants (behind d.pump d.menu d.refused i).1), feel d.past d.alarm i.1 (seenF (ordersOf d.menu i).2), (tickP (behind d.pump d.menu d.refused i).1 d.past (feel d.past d.alarm i.1 (seenF (ordersOf d.menu i).2))).1) :: newT (tick d i) l
theorem tick_live {n : Nat} {d : Device} (h : Life n d) {i : In} (hi : inOk i = true) (hn : n < 150) :
    (tick d i).ticks = d.ticks ++ newT d [i] ∧ (tick d i).menu = (ordersOf d.menu i).1 ∧ (tick d i).alarm = feel d.past d.alarm i.1 (seenF (ordersOf d.menu i).2) := by
  obtain ⟨p, past, alarm, m, ts, ref, rfl, hd⟩ := h.ok
  have hlen : ts.length = n := h.len
  have href : ref ≤ 22 * (n : Int) := h.ref
  rw [tick_dev, tickD_live hd hi (by omega) (by omega)]
  exact ⟨rfl, rfl, rfl⟩
theorem foldl_ticks : ∀ (l : List In) {n : Nat} {d : Device}, Life n d → l.all inOk = true → n + l.length ≤ 150 → (l.foldl tick d).ticks = d.ticks ++ newT d l
  | [], _, d, _, _, _ => by simp [newT]
  | i :: l, n, d, h, hi, hn => by
    have hi : (inOk i && l.all inOk) = true := hi
    rw [Bool.and_eq_true] at hi
    simp only [List.length_cons] at hn
    have := foldl_ticks l (h.tick hi.1 (by omega)) hi.2 (by omega)
    rw [List.foldl_cons, this, (tick_live h hi.1 (by omega)).1, List.append_assoc]
    rfl
theorem newT_len : ∀ (d : Device) (l : List In), (newT d l).length = l.length
  | _, [] => rfl
  | d, i :: l => by
    have := newT_len (tick d i) l
    simp only [newT, List.length_cons, this]
theorem or_has : ∀ a b : _root_.Fin 16, (decide (ior .i64 (ior .i64 (a.val : Int) (b.val : Int)) (b.val : Int) = ior .i64 (a.val : Int) (b.val : Int)) && (decide (ior .i64 (ior .i64 (a.val : Int) (b.val : Int)) (a.val : Int) = ior .i64 (a.val : Int) (b.val : Int)) && decide (ior .i64 (b.val : Int) (b.val : Int) = (b.val : Int)))) = true := by decide +kernel
theorem senseOk_den {a : Int} (h : senseOk a = true) : 0 ≤ a ∧ a ≤ 15 := of_decide_eq_true h
theorem or_has' {a b : Int} (ha : senseOk a = true) (hb : senseOk b = true) : ior .i64 (ior .i64 a b) b = ior .i64 a b ∧ ior .i64 (ior .i64 a b) a = ior .i64 a b ∧ ior .i64 b b = b := by
  have ha := senseOk_den ha
  have hb := senseOk_den hb
  have h := or_has ⟨a.toNat, by omega⟩ ⟨b.toNat, by omega⟩
  simp only [Int.toNat_of_nonneg ha.1, Int.toNat_of_nonneg hb.1, Bool.and_eq_true, decide_eq_true_eq] at h
  exact h
theorem latC_feel {past : List Int} {alarm bits : Int} {seen : Bool} (h : guardOk past alarm = true) (hb : senseOk bits = true) : latC (feel past alarm bits seen) bits alarm seen = true := by
  have ha := (guardOk_den h).2.2.2
  obtain ⟨o1, o2, o3⟩ := or_has' ha hb
  unfold latC feel
  rw [if_pos ⟨h, hb⟩, hb]
  cases seen with
  | true =>
    rw [if_pos rfl, hb, decide_eq_true o3]; rfl
  | false =>
    rw [if_neg (by simp), senseOk_or ha hb, decide_eq_true o1, decide_eq_true o2]; rfl
theorem latF_newT : ∀ (l : List In) {n : Nat} {d : Device}, Life n d → l.all inOk = true → n + l.length ≤ 150 → latF (newT d l) l d.menu d.alarm = true
  | [], _, _, _, _, _ => rfl
  | i :: l, n, d, h, hi, hn => by
    have hi : (inOk i && l.all inOk) = true := hi
    rw [Bool.and_eq_true] at hi
    simp only [List.length_cons] at hn
    have ih := latF_newT l (h.tick hi.1 (by omega)) hi.2 (by omega)
    obtain ⟨_, e2, e3⟩ := tick_live h hi.1 (by omega)
    rw [e2, e3] at ih
    have hg : guardOk d.past d.alarm = true := by
      obtain ⟨p, past, alarm, m, ts, ref, rfl, hd⟩ := h.ok
      exact (deviceOk_den hd).2.1
    have hc := latC_feel (seen := seenF (ordersOf d.menu i).2) hg (inOk_den hi.1).1
    show (latC _ i.1 d.alarm _ && latF (newT (tick d i) l) l (ordersOf d.menu i).1 _) = true
    rw [hc, ih]; rfl
theorem latched_run {l : List In} (hi : l.all inOk = true) (hn : l.length ≤ 150) : latched (l.foldl tick devNew).ticks l = true := by
  have e := foldl_ticks l life_new hi (by omega)
  have h := latF_newT l life_new hi (by omega)
  have e0 : devNew.ticks = [] := rfl
  rw [e0, List.nil_append] at e
  unfold latched
  rw [e, newT_len, decide_eq_true rfl]
  exact h
theorem and_or : ∀ a b c : _root_.Fin 16, (decide (iand .i64 (a.val : Int) (ior .i64 (b.val : Int) (c.val : Int)) = ior .i64 (b.val : Int) (c.val : Int)) == (decide (ior .i64 (a.val : Int) (b.val : Int) = (a.val : Int)) && decide (ior .i64 (a.val : Int) (c.val : Int) = (a.val : Int)))) = true := by decide +kernel
theorem and_same : ∀ a b : _root_.Fin 16, (decide (iand .i64 (a.val : Int) (b.val : Int) = (b.val : Int)) == decide (ior .i64 (a.val : Int) (b.val : Int) = (a.val : Int))) = true := by decide +kernel
theorem and_same' {a b : Int} (ha : senseOk a = true) (hb : senseOk b = true) : decide (iand .i64 a b = b) = decide (ior .i64 a b = a) := by
  have ha := senseOk_den ha
  have hb := senseOk_den hb
  have h := and_same ⟨a.toNat, by omega⟩ ⟨b.toNat, by omega⟩
  simp only [Int.toNat_of_nonneg ha.1, Int.toNat_of_nonneg hb.1] at h
  exact eq_of_beq h
theorem and_or' {a b c : Int} (ha : senseOk a = true) (hb : senseOk b = true) (hc : senseOk c = true) : decide (iand .i64 a (ior .i64 b c) = ior .i64 b c) = (decide (ior .i64 a b = a) && decide (ior .i64 a c = a)) := by
  have ha := senseOk_den ha
  have hb := senseOk_den hb
  have hc := senseOk_den hc
  have h := and_or ⟨a.toNat, by omega⟩ ⟨b.toNat, by omega⟩ ⟨c.toNat, by omega⟩
  simp only [Int.toNat_of_nonneg ha.1, Int.toNat_of_nonneg hb.1, Int.toNat_of_nonneg hc.1] at h
  exact eq_of_beq h
end Go.Sx
/- An order's text tells the order. -/
set_option linter.unusedVariables false
set_option linter.unusedSimpArgs false
namespace Go.Sx
open Go.RowKit (wrap64)
theorem byN_bl (s : ByteArray) (i : Nat) : byN s i = (((bl s)[i]?).map UInt8.toNat).getD 0 := by
  unfold byN
  by_cases h : i < s.size
  · rw [dif_pos h]
    have : (bl s)[i]? = some (s[i]'h) := by
      have h2 : i < (bl s).length := by rw [bl_len]; exact h
      rw [List.getElem?_eq_getElem h2]
      rfl
    rw [this]; rfl
  · rw [dif_neg h]
    have : (bl s)[i]? = none := by
      rw [List.getElem?_eq_none]
      rw [bl_len]; omega
    rw [this]; rfl
theorem byN_mid (A V B : ByteArray) (j : Nat) (hj : j < V.size) : byN (A ++ V ++ B) (A.size + j) = byN V j := by
  rw [byN_bl, byN_bl, bl_append, bl_append]
  have h1 : A.size + j < (bl A ++ bl V).length := by rw [List.length_append, bl_len, bl_len]; omega
  rw [List.getElem?_append_left h1, List.getElem?_append_right (by rw [bl_len]; omega), bl_len, Nat.add_sub_cancel_left]
theorem byN_varT (n j : Nat) : byN (varT n) j = ((varL n)[j]?).getD 0 := by
  rw [byN_bl, bl_varT, List.getElem?_map]
  cases h : (varL n)[j]? with
  | none => rfl
  | some x =>
    have hx := varL_le n x (List.mem_of_getElem? h)
    simp only [Option.map_some, Option.getD_some, UInt8.toNat_ofNat']
    omega
theorem varL_one {n : Nat} (h : n ≤ 127) : varL n = [n] := by unfold varL; rw [dif_pos h]
theorem varL_two {n : Nat} (h : 127 < n) (h2 : n ≤ 16383) : varL n = [n % 128 + 128, n / 128] := by
  unfold varL
  rw [dif_neg (by omega), varL_one (by omega)]
theorem size_app3 (A V B : ByteArray) : (A ++ V ++ B).size = A.size + V.size + B.size := by rw [size_append, size_append]
theorem varT_len (n : Nat) : (varT n).size = (varL n).length := by unfold varT; rw [size_bstr, List.length_map]
theorem readV_put (A B : ByteArray) {n : Nat} (h : n ≤ 16383) : readV (A ++ varT n ++ B) (A.size : Int) = ((n : Int), ((A.size + (varT n).size : Nat) : Int), true) := by
  have hs := size_app3 A (varT n) B
  have h1 := varT_size1 n
  unfold readV
  rw [if_pos ⟨by omega, by omega⟩, Int.toNat_natCast]
  have hb := fun j hj => (byN_mid A (varT n) B j hj).trans (byN_varT n j)
  have hl := varT_len n
  generalize A ++ varT n ++ B = s at *
  by_cases hn : n ≤ 127
  · rw [varL_one hn] at hl hb
    have hl : (varT n).size = 1 := hl
    have b0 := hb 0 (by omega)
    have b0 : byN s (A.size + 0) = n := b0
    unfold rdv
    rw [if_pos (by omega), b0, if_neg (by omega), if_neg (by omega)]
    have e : 0 + n % 128 * 128 ^ 0 = n := by omega
    rw [e, hl]
  · rw [varL_two (by omega) h] at hl hb
    have hl : (varT n).size = 2 := hl
    have b0 : byN s (A.size + 0) = n % 128 + 128 := hb 0 (by omega)
    have b1 : byN s (A.size + 1) = n / 128 := hb 1 (by omega)
    unfold rdv
    rw [if_pos (by omega), b0, if_pos (by omega)]
    unfold rdv
    rw [if_pos (by omega), b1, if_neg (by omega)]
    have e : 0 + (n % 128 + 128) % 128 * 128 ^ 0 + n / 128 % 128 * 128 ^ (0 + 1) = n := by omega
    rw [e, if_neg (by omega), hl]
theorem front_app (s : ByteArray) (v : Int) : front (s ++ four v) = s := by
  apply ba_ext
  unfold front
  rw [bl_extract, List.drop_zero, bl_append, size_append, four_size, Nat.add_sub_cancel, size_bl, List.take_left]
theorem unseal_seal {s : ByteArray} (h : s.size ≤ 20000) : unsealT (s ++ four (sumOf s)) = (s, true) := by
  unfold unsealT
  rw [front_app, if_neg (by rw [size_append, four_size]; omega), if_pos ⟨h, rfl⟩]
theorem varT_size2 {n : Nat} (h : n ≤ 16383) : (varT n).size ≤ 2 := by
  rw [varT_len]
  exact varL_long 1 n (by omega)
theorem numberF_put (A B : ByteArray) {n : Nat} (h : n ≤ 16383) : numberF (A ++ varT n ++ B, (A.size : Int), false) = ((n : Int), (A ++ varT n ++ B, ((A.size + (varT n).size : Nat) : Int), false)) := by
  have e := readV_put A B h
  unfold numberF
  simp only [Bool.false_eq_true, if_false]
  rw [e]
  rfl
theorem app_assoc (a b c : ByteArray) : a ++ b ++ c = a ++ (b ++ c) := by
  apply ba_ext
  simp only [bl_append, List.append_assoc]
theorem app_nil (a : ByteArray) : a ++ (⟨#[]⟩ : ByteArray) = a := by
  apply ba_ext
  rw [bl_append, bl_empty, List.append_nil]
theorem numberF_three_put (A : ByteArray) {b c x : Nat} (hA : A.size = 1) (hb : b ≤ 16383) (hc : c ≤ 16383) (hx : x ≤ 16383) :
    numberF (A ++ varT b ++ varT c ++ varT x, 1, false) = ((b : Int), (A ++ varT b ++ varT c ++ varT x, ((1 + (varT b).size : Nat) : Int), false)) ∧
    numberF (A ++ varT b ++ varT c ++ varT x, ((1 + (varT b).size : Nat) : Int), false) = ((c : Int), (A ++ varT b ++ varT c ++ varT x, ((1 + (varT b).size + (varT c).size : Nat) : Int), false)) ∧
    numberF (A ++ varT b ++ varT c ++ varT x, ((1 + (varT b).size + (varT c).size : Nat) : Int), false) = ((x : Int), (A ++ varT b ++ varT c ++ varT x, ((1 + (varT b).size + (varT c).size + (varT x).size : Nat) : Int), false)) := by
  have e1 : A ++ varT b ++ varT c ++ varT x = A ++ varT b ++ (varT c ++ varT x) := app_assoc _ _ _
  have e3 : A ++ varT b ++ varT c ++ varT x = (A ++ varT b ++ varT c) ++ varT x ++ ⟨#[]⟩ := (app_nil _).symm
  have p1 := numberF_put A (varT c ++ varT x) hb
  have p2 := numberF_put (A ++ varT b) (varT x) hc
  have p3 := numberF_put (A ++ varT b ++ varT c) ⟨#[]⟩ hx
  rw [← e1, hA] at p1
  rw [← e3] at p3
  rw [size_append, size_append, hA] at p3
  rw [size_append, hA] at p2
  exact ⟨p1, p2, p3⟩
/-- An order's text is read as the order. -/
theorem readO_order {o : Order} (h : orderOk o = true) : (orderT o).2 = true ∧ (orderT o).1.size ≤ 11 ∧ 5 ≤ (orderT o).1.size ∧ readO (orderT o).1 = (o, true) := by
  obtain ⟨a, b, c, x⟩ := o
  have hp := orderOk_den h
  unfold OrderOkP at hp
  have ha : 1 ≤ a ∧ a ≤ 6 := by omega
  have hb : 0 ≤ b ∧ b ≤ 16383 := by omega
  have hc : 0 ≤ c ∧ c ≤ 16383 := by omega
  have hx : 0 ≤ x ∧ x ≤ 16383 := by omega
  clear hp
  obtain ⟨nb, rfl⟩ := Int.eq_ofNat_of_zero_le hb.1
  obtain ⟨nc, rfl⟩ := Int.eq_ofNat_of_zero_le hc.1
  obtain ⟨nx, rfl⟩ := Int.eq_ofNat_of_zero_le hx.1
  have s1 : (bstr [wr .u8 a]).size = 1 := by rw [size_bstr]; rfl
  have z1 := varT_size2 (n := nb) (by omega)
  have z2 := varT_size2 (n := nc) (by omega)
  have z3 := varT_size2 (n := nx) (by omega)
  obtain ⟨n1, n2, n3⟩ := numberF_three_put (bstr [wr .u8 a]) (b := nb) (c := nc) (x := nx) s1 (by omega) (by omega) (by omega)
  have eo : otext (a, (nb : Int), (nc : Int), (nx : Int)) = bstr [wr .u8 a] ++ varT nb ++ varT nc ++ varT nx := by
    unfold otext
    simp only [Int.toNat_natCast]
  have b0 : byt (bstr [wr .u8 a] ++ varT nb ++ varT nc ++ varT nx) 0 = a := by
    have h1 : byt (bstr [wr .u8 a] ++ varT nb ++ varT nc ++ varT nx) ((0 : Nat) : Int) = (byN (bstr [wr .u8 a] ++ varT nb ++ varT nc ++ varT nx) 0 : Int) := byt_byN _ 0
    have h2 : byN (bstr [wr .u8 a] ++ varT nb ++ varT nc ++ varT nx) 0 = (UInt8.ofNat (wr .u8 a).toNat).toNat := by
      rw [byN_bl]
      simp only [bl_append, List.append_assoc]
      rfl
    have h3 : ((UInt8.ofNat (wr .u8 a).toNat).toNat : Int) = a := by
      rw [wr8, UInt8.toNat_ofNat']
      omega
    have h1 : byt (bstr [wr .u8 a] ++ varT nb ++ varT nc ++ varT nx) 0 = _ := h1
    rw [h1, h2, h3]
  have hsz : (bstr [wr .u8 a] ++ varT nb ++ varT nc ++ varT nx).size = 1 + (varT nb).size + (varT nc).size + (varT nx).size := by
    rw [size_append, size_append, size_append, s1]
  unfold orderT
  rw [if_pos h]
  unfold sealT
  rw [eo]
  generalize bstr [wr .u8 a] ++ varT nb ++ varT nc ++ varT nx = T at *
  have hlt : ¬ 20000 < T.size := by omega
  rw [if_neg hlt]
  refine ⟨rfl, ?_, ?_, ?_⟩
  · show (T ++ four (sumOf T)).size ≤ 11
    rw [size_append, four_size]; omega
  · show 5 ≤ (T ++ four (sumOf T)).size
    rw [size_append, four_size]; omega
  · show readO (T ++ four (sumOf T)) = _
    unfold readO
    rw [unseal_seal (by omega)]
    simp only []
    rw [if_pos ⟨trivial, by omega⟩, n1]
    simp only []
    rw [n2]
    simp only []
    rw [n3]
    simp only []
    rw [if_neg (by simp), if_pos ⟨by rw [hsz], by rw [b0]; exact h⟩, b0]
end Go.Sx
/- A told volume is given. -/
set_option linter.unusedVariables false
set_option linter.unusedSimpArgs false
namespace Go.Sx
open Go.RowKit (wrap64)
def inE : In := (0, ⟨#[]⟩, ⟨#[]⟩)
theorem inE_ok : inOk inE = true := rfl
theorem readO_empty : readO ⟨#[]⟩ = ((0, 0, 0, 0), false) := by
  unfold readO unsealT
  have h : (⟨#[]⟩ : ByteArray).size < 4 := by rw [size_empty]; omega
  rw [if_pos h, if_neg (fun q => by cases q.1)]
theorem ordersOf_empty (m : Menu) : ordersOf m inE = (m, []) := by
  unfold ordersOf
  show (if (readO ⟨#[]⟩).2 = true then _ else pressAll m ⟨#[]⟩) = _
  rw [readO_empty, if_neg (by simp)]
  rfl
theorem behind_empty (p : Pump) (m : Menu) (ref : Int) : behind p m ref inE = (p, ref) := by
  unfold behind
  rw [ordersOf_empty]
  have hz : ¬ (inE.2.2.size ≠ 0 ∧ (readO inE.2.2).2 = false) := fun q => q.1 size_empty
  rw [if_neg hz]
  rfl
theorem feel_empty {past : List Int} (h : guardOk past 0 = true) : feel past 0 0 false = 0 := by
  unfold feel
  rw [if_pos ⟨h, rfl⟩, if_neg (by simp)]
  exact or_zero rfl
theorem tick_empty {p : Pump} {past : List Int} {m : Menu} {ts : List Tick} {ref : Int} (h : deviceOk p past 0 m ts ref = true) (hl : ts.length ≠ 200) (hr : ref ≤ 999999900) :
    tick (dev p past 0 m ts ref) inE = dev (give p (allow past 0 (wants p))) (pass past 0 (allow past 0 (wants p))) 0 m (ts ++ [(allow past 0 (wants p), 0, (give p (allow past 0 (wants p))).1)]) ref := by
  rw [tick_dev, tickD_live h inE_ok hl hr]
  have hg := (deviceOk_den h).2.1
  have e1 : seenF (ordersOf m inE).2 = false := by rw [ordersOf_empty]; rfl
  have e2 : feel past 0 inE.1 false = 0 := feel_empty hg
  rw [e1, e2, behind_empty, ordersOf_empty]
  unfold tickP
  rw [if_pos rfl]
theorem small_sum {l : List Int} (h : ∀ x ∈ l, 0 ≤ x ∧ x ≤ 3) : 0 ≤ l.sum ∧ l.sum ≤ 3 * l.length := by
  induction l with
  | nil => simp
  | cons x l ih =>
    have := ih (fun y hy => h y (List.mem_cons_of_mem _ hy))
    have := h x List.mem_cons_self
    simp only [List.sum_cons, List.length_cons]
    omega
def GivI (num den vol : Int) (j : Nat) (d : Device) : Prop := ∃ s n e r l g past ts, d = dev (s, n, e, r, l, 0, g, 0) past 0 menuNew ts 0 ∧ (∀ x ∈ past, 0 ≤ x ∧ x ≤ 3) ∧
  ((s = 1 ∧ n = num ∧ e = den ∧ r + den * g = (j : Int) * num ∧ l = vol - g ∧ 0 ≤ r ∧ r < den ∧ 0 < l ∧ 0 ≤ g) ∨ (s = 2 ∧ n = 1 ∧ e = 50 ∧ l = 0 ∧ vol ≤ g ∧ 50 * (g - vol) + r ≤ (j : Int) ∧ 0 ≤ r ∧ r < 50))
/-- What the guard lets through of a small want. -/
theorem allow_small {past : List Int} {w : Int} (hg : guardOk past 0 = true) (hp : ∀ x ∈ past, 0 ≤ x ∧ x ≤ 3) (hw : 0 ≤ w ∧ w ≤ 3) : allow past 0 w = w ∧ (∀ x ∈ pass past 0 w, 0 ≤ x ∧ x ≤ 3) := by
  have h1 := (guardOk_den hg).1
  have h2 := small_sum hp
  constructor
  · unfold allow
    rw [if_pos ⟨hg, rfl⟩]
    omega
  · unfold pass
    rw [if_pos hg]
    intro x hx
    have hx := List.mem_of_mem_take hx
    rcases List.mem_cons.1 hx with hx | hx
    · omega
    · exact hp x hx
theorem mul_step {den g G r num r' : Int} {j : Nat} (h : r + den * g = (j : Int) * num) (hd : r + num = den * G + r') : r' + den * (g + G) = ((j + 1 : Nat) : Int) * num := by
  have e1 : ((j + 1 : Nat) : Int) * num = (j : Int) * num + num := by
    rw [Int.natCast_succ, Int.add_mul, Int.one_mul]
  rw [e1, ← h, Int.mul_add]
  omega
theorem GivI.step {num den vol : Int} (hv : 1 ≤ vol ∧ vol ≤ 60) {j : Nat} (hj : j < 150) {d : Device} (h : GivI num den vol j d) (hL : Life j d) : GivI num den vol (j + 1) (tick d inE) := by
  obtain ⟨s, n, e, r, l, g, past, ts, rfl, hp, hc⟩ := h
  have hlen : ts.length = j := hL.len
  have hd : deviceOk (s, n, e, r, l, 0, g, 0) past 0 menuNew ts 0 = true := by
    obtain ⟨p', past', al', m', ts', ref', he, hd⟩ := hL.ok
    have e1 : (s, n, e, r, l, 0, g, 0) = p' := congrArg Device.pump he
    have e2 : past = past' := congrArg Device.past he
    have e3 : (0 : Int) = al' := congrArg Device.alarm he
    have e4 : menuNew = m' := congrArg Device.menu he
    have e5 : ts = ts' := congrArg Device.ticks he
    have e6 : (0 : Int) = ref' := congrArg Device.refused he
    subst e1 e2 e3 e4 e5 e6
    exact hd
  rw [tick_empty hd (by omega) (by omega)]
  obtain ⟨q1, q2, _⟩ := deviceOk_den hd
  have hpok := pumpOk_den q1
  have hs : s = 1 ∨ s = 2 := by
    rcases hc with hc | hc
    · exact .inl hc.1
    · exact .inr hc.1
  have hr : runs (s, n, e, r, l, 0, g, 0) = true := by
    unfold runs
    rw [q1, decide_eq_true hs]; rfl
  have hrate : rateOk n e r = true := decide_eq_true hpok.2.1
  have hrd := rateOk_den hrate
  have hG := stepGives_range hrate hpok.2.2.1
  have hw := wants_runs hr
  have eG : stepGives n e r = (r + n) / e := by unfold stepGives; rw [if_pos hrate]
  have eR : stepRest n e r = (r + n) % e := by unfold stepRest; rw [if_pos hrate]
  have hdm := Int.mul_ediv_add_emod (r + n) e
  have hR1 := Int.emod_nonneg (r + n) (show e ≠ 0 by omega)
  have hR2 := Int.emod_lt_of_pos (r + n) (show 0 < e by omega)
  rw [← eG] at hdm
  rw [← eR] at hdm hR1 hR2
  rcases hc with ⟨rfl, rfl, rfl, hi, rfl, h0, h1, h2, h3⟩ | ⟨rfl, rfl, rfl, rfl, hi, h1, h2, h3⟩
  · have hw : wants (1, n, e, r, vol - g, 0, g, 0) = min (stepGives n e r) (vol - g) := by rw [hw, if_pos rfl]; omega
    obtain ⟨a1, a2⟩ := allow_small (w := wants (1, n, e, r, vol - g, 0, g, 0)) q2 hp (by omega)
    rw [a1]
    have eN : giveN (1, n, e, r, vol - g, 0, g, 0) (wants (1, n, e, r, vol - g, 0, g, 0)) = min (stepGives n e r) (vol - g) := by unfold giveN; omega
    have eB : giveB (1, n, e, r, vol - g, 0, g, 0) (wants (1, n, e, r, vol - g, 0, g, 0)) = 0 := by
      unfold giveB
      rw [eN]
      show min _ (min (0 : Int) 3) = 0
      omega
    have eg : give (1, n, e, r, vol - g, 0, g, 0) (wants (1, n, e, r, vol - g, 0, g, 0)) = (if (1 : Int) = 1 ∧ vol - g - (min (stepGives n e r) (vol - g) - 0) = 0 then (2, 1, 50, 0, 0, 0 - 0, min (g + min (stepGives n e r) (vol - g)) 1000000000000, 0)
       else (1, n, e, stepRest n e r, (if (1 : Int) = 1 then vol - g - (min (stepGives n e r) (vol - g) - 0) else vol - g), 0 - 0, min (g + min (stepGives n e r) (vol - g)) 1000000000000, 0)) := by
      unfold give
      simp only []
      rw [if_pos hr, eN, eB]
    generalize hgv : give (1, n, e, r, vol - g, 0, g, 0) (wants (1, n, e, r, vol - g, 0, g, 0)) = q at *
    by_cases hz : vol - g - (min (stepGives n e r) (vol - g) - 0) = 0
    · rw [if_pos ⟨rfl, hz⟩] at eg
      have e5 : min (g + min (stepGives n e r) (vol - g)) 1000000000000 = vol := by omega
      rw [e5] at eg
      subst eg
      exact ⟨2, 1, 50, 0, 0, vol, _, _, rfl, a2, .inr ⟨rfl, rfl, rfl, rfl, Int.le_refl _, by omega, by omega, by omega⟩⟩
    · rw [if_neg (fun q => hz q.2), if_pos rfl] at eg
      have e5 : min (stepGives n e r) (vol - g) = stepGives n e r := by omega
      rw [e5] at eg hz
      have e6 : min (g + stepGives n e r) 1000000000000 = g + stepGives n e r := by omega
      rw [e6] at eg
      subst eg
      have hms := mul_step hi hdm.symm
      refine ⟨1, n, e, stepRest n e r, vol - g - (stepGives n e r - 0), g + stepGives n e r, _, _, rfl, a2, .inl ⟨rfl, rfl, rfl, hms, by omega, hR1, hR2, by omega, by omega⟩⟩
  · have hw : wants (2, 1, 50, r, 0, 0, g, 0) = stepGives 1 50 r := by
      rw [hw, if_neg (by omega)]
      omega
    obtain ⟨a1, a2⟩ := allow_small (w := wants (2, 1, 50, r, 0, 0, g, 0)) q2 hp (by omega)
    rw [a1]
    have eN : giveN (2, 1, 50, r, 0, 0, g, 0) (wants (2, 1, 50, r, 0, 0, g, 0)) = stepGives 1 50 r := by unfold giveN; omega
    have eB : giveB (2, 1, 50, r, 0, 0, g, 0) (wants (2, 1, 50, r, 0, 0, g, 0)) = 0 := by
      unfold giveB
      rw [eN]
      show min _ (min (0 : Int) 3) = 0
      omega
    have eg : give (2, 1, 50, r, 0, 0, g, 0) (wants (2, 1, 50, r, 0, 0, g, 0)) = (2, 1, 50, stepRest 1 50 r, 0, 0, g + stepGives 1 50 r, 0) := by
      unfold give
      simp only []
      rw [if_pos hr, eN, eB, if_neg (by omega), if_neg (by omega)]
      have e6 : min (g + stepGives 1 50 r) 1000000000000 = g + stepGives 1 50 r := by omega
      rw [e6]
      rfl
    generalize hgv : give (2, 1, 50, r, 0, 0, g, 0) (wants (2, 1, 50, r, 0, 0, g, 0)) = q at *
    subst eg
    refine ⟨2, 1, 50, stepRest 1 50 r, 0, g + stepGives 1 50 r, _, _, rfl, a2, .inr ⟨rfl, rfl, rfl, rfl, by omega, by omega, hR1, hR2⟩⟩
theorem GivI.many {num den vol : Int} (hv : 1 ≤ vol ∧ vol ≤ 60) : ∀ (k : Nat) {j : Nat} {d : Device}, GivI num den vol j d → Life j d → j + k ≤ 150 → GivI num den vol (j + k) ((List.replicate k inE).foldl tick d)
  | 0, _, _, h, _, _ => h
  | k + 1, j, d, h, hL, hk => by
    have := GivI.many hv k (h.step hv (by omega) hL) (hL.tick inE_ok (by omega)) (by omega)
    rw [List.replicate_succ, List.foldl_cons, show j + (k + 1) = j + 1 + k by omega]
    exact this
/-- The first tick: an order by the link. -/
theorem takeR_basal {num den vol : Int} : takeR (0, 0, 1, 0, 0, 0, 0, 0) (1, num, den, vol) = some (1, num, den, 0, vol, 0, 0, 0) := rfl
theorem take_basal {num den vol : Int} (h : orderOk (1, num, den, vol) = true) : take (0, 0, 1, 0, 0, 0, 0, 0) (1, num, den, vol) = ((1, num, den, 0, vol, 0, 0, 0), true) := by
  unfold take
  rw [if_pos ⟨pumpNew_ok, h⟩, takeR_basal]
def told (num den vol : Int) : Device := dev (1, num, den, 0, vol, 0, 0, 0) [] 0 menuNew [] 0
theorem pump_basal {num den vol : Int} (h : orderOk (1, num, den, vol) = true) : pumpOk (1, num, den, 0, vol, 0, 0, 0) = true := by
  have := take_ok (1, num, den, vol) pumpNew_ok
  rw [take_basal h] at this
  exact this
theorem told_ok {num den vol : Int} (h : orderOk (1, num, den, vol) = true) : deviceOk (1, num, den, 0, vol, 0, 0, 0) [] 0 menuNew [] 0 = true :=
  deviceOk_mk (pump_basal h) rfl menuNew_ok (Nat.zero_le _) (by omega)
theorem told_life {num den vol : Int} (h : orderOk (1, num, den, vol) = true) : Life 0 (told num den vol) := by
  refine ⟨⟨_, _, _, _, _, _, rfl, told_ok h⟩, rfl, Int.le_refl _, Int.le_refl _, rfl, ?_, ?_, rfl, rfl⟩
  · intro x hx
    have hx : x ∈ ([] : List Int) := hx
    cases hx
  · intro i
    show ((([] : List Int).drop i).take 10).sum ≤ 30
    simp
theorem told_GivI {num den vol : Int} (h : orderOk (1, num, den, vol) = true) : GivI num den vol 0 (told num den vol) := by
  have hp := orderOk_den h
  unfold OrderOkP at hp
  exact ⟨1, num, den, 0, vol, 0, [], [], rfl, fun x hx => (by cases hx), .inl ⟨rfl, rfl, rfl, by simp, by omega, by omega, by omega, by omega, by omega⟩⟩
/-- What makes one order, and feels nothing, ticks as if the order had been taken. -/
theorem tick_told {num den vol : Int} (h : orderOk (1, num, den, vol) = true) {i : In} (hi : inOk i = true) (hb : i.1 = 0) (ho : ordersOf menuNew i = (menuNew, [(1, num, den, vol)])) (hl : i.2.2.size ≠ 0 → (readO i.2.2).2 = true) : tick devNew i = tick (told num den vol) inE := by
  have e0 : devNew = dev (0, 0, 1, 0, 0, 0, 0, 0) [] 0 menuNew [] 0 := rfl
  have hd0 : deviceOk (0, 0, 1, 0, 0, 0, 0, 0) [] 0 menuNew [] 0 = true := deviceOk_mk pumpNew_ok rfl menuNew_ok (Nat.zero_le _) (by omega)
  have hb1 : behind (0, 0, 1, 0, 0, 0, 0, 0) menuNew 0 i = ((1, num, den, 0, vol, 0, 0, 0), 0) := by
    unfold behind
    rw [ho]
    have hz : ¬ (i.2.2.size ≠ 0 ∧ (readO i.2.2).2 = false) := fun q => by rw [hl q.1] at q; cases q.2
    rw [if_neg hz]
    have ht : takeL [(1, num, den, vol)] (0, 0, 1, 0, 0, 0, 0, 0) 0 = ((1, num, den, 0, vol, 0, 0, 0), 0) := by
      unfold takeL takeL
      have h5 : takeO (0, 0, 1, 0, 0, 0, 0, 0) (1, num, den, vol) = ((1, num, den, 0, vol, 0, 0, 0), true) := by
        unfold takeO
        rw [if_neg (by show ¬ (1 : Int) = 5; omega)]
        exact take_basal h
      rw [h5, if_pos rfl]
    rw [ht]
  have hs : seenF (ordersOf menuNew i).2 = false := by rw [ho]; rfl
  rw [e0, tick_dev, tickD_live hd0 hi (by simp) (by omega), hb1, hs, ho, hb, feel_empty rfl]
  unfold told
  rw [tick_empty (told_ok h) (by simp) (by omega)]
  unfold tickP
  rw [if_pos rfl]
theorem told_link {num den vol : Int} (h : orderOk (1, num, den, vol) = true) : tick devNew (0, ⟨#[]⟩, (orderT (1, num, den, vol)).1) = tick (told num den vol) inE := by
  obtain ⟨h1, h2, h3, h4⟩ := readO_order h
  refine tick_told h ?_ rfl ?_ (fun _ => by rw [h4])
  · have ht : (orderT (1, num, den, vol)).1.size ≤ 40 := by omega
    unfold inOk
    show (senseOk 0 && (decide ((⟨#[]⟩ : ByteArray).size ≤ 20) && decide ((orderT (1, num, den, vol)).1.size ≤ 40))) = true
    rw [decide_eq_true ht]
    rfl
  · unfold ordersOf
    show (if (readO (orderT (1, num, den, vol)).1).2 = true then _ else _) = _
    rw [h4, if_pos rfl]
    rfl
/-- A device that is told a volume gives it. -/
theorem told_all {num den vol : Int} (h : orderOk (1, num, den, vol) = true) (hv : vol ≤ 60) : ∃ s n e r l g past ts, (List.replicate 149 inE).foldl tick (tick devNew (0, ⟨#[]⟩, (orderT (1, num, den, vol)).1)) = dev (s, n, e, r, l, 0, g, 0) past 0 menuNew ts 0 ∧
    Life 150 (dev (s, n, e, r, l, 0, g, 0) past 0 menuNew ts 0) ∧ g ≤ vol + 3 ∧ (vol * den ≤ 140 * num → 0 ≤ g - vol ∧ l = 0) := by
  have hp := orderOk_den h
  unfold OrderOkP at hp
  have hL := told_life h
  have hG := (told_GivI h).many (by omega) 150 hL (by omega)
  have hL2 := hL.foldl (List.replicate 150 inE) (by simp [inE_ok]) (by simp)
  have e : (List.replicate 150 inE).foldl tick (told num den vol) = (List.replicate 149 inE).foldl tick (tick devNew (0, ⟨#[]⟩, (orderT (1, num, den, vol)).1)) := by
    rw [told_link h, List.replicate_succ, List.foldl_cons]
  rw [e, Nat.zero_add] at hG
  rw [e, List.length_replicate, Nat.zero_add] at hL2
  obtain ⟨s, n, e2, r, l, g, past, ts, he, hpast, hc⟩ := hG
  rw [he] at hL2
  refine ⟨s, n, e2, r, l, g, past, ts, he, hL2, ?_, fun hd => ?_⟩
  · rcases hc with ⟨rfl, rfl, rfl, hi, rfl, h0, h1, h2, h3⟩ | ⟨rfl, rfl, rfl, rfl, hi, h1, h2, h3⟩
    · omega
    · omega
  · rcases hc with ⟨rfl, rfl, rfl, hi, rfl, h0, h1, h2, h3⟩ | ⟨rfl, rfl, rfl, rfl, hi, h1, h2, h3⟩
    · exfalso
      have hm : e2 * (g + 1) ≤ vol * e2 := by
        rw [Int.mul_comm vol]
        exact Int.mul_le_mul_of_nonneg_left (by omega) (by omega)
      rw [Int.mul_add, Int.mul_one] at hm
      have hi : r + e2 * g = 150 * n := hi
      generalize e2 * g = X at *
      generalize vol * e2 = Y at *
      omega
    · omega
end Go.Sx
/- A sum tells any one byte that is turned. -/
set_option linter.unusedVariables false
set_option linter.unusedSimpArgs false
namespace Go.Sx
open Go.RowKit (wrap64)
def rndN (n : Nat) : Nat := if n % 2 = 1 then n / 2 ^^^ 3558460437 else n / 2
def rndsN : Nat → Nat → Nat
  | 0, b => b
  | n + 1, b => rndsN n (rndN b)
def sumN : List UInt8 → Nat → Nat
  | [], b => b
  | x :: r, b => sumN r (rndsN 8 (b ^^^ x.toNat))
theorem ixor_nat (a b : Nat) (ha : a < 4294967296) (hb : b < 4294967296) : ixor .u32 (a : Int) (b : Int) = ((a ^^^ b : Nat) : Int) := by
  have e : ixor .u32 (a : Int) (b : Int) = IntKind.u32.wrap (((BitVec.ofInt 32 (a : Int) ^^^ BitVec.ofInt 32 (b : Int)).toNat : Nat) : Int) := rfl
  have h1 : (BitVec.ofInt 32 (a : Int)).toNat = a := by rw [BitVec.ofInt_natCast, BitVec.toNat_ofNat]; omega
  have h2 : (BitVec.ofInt 32 (b : Int)).toNat = b := by rw [BitVec.ofInt_natCast, BitVec.toNat_ofNat]; omega
  have hl : a ^^^ b < 2 ^ 32 := Nat.xor_lt_two_pow ha hb
  rw [e, BitVec.toNat_xor, h1, h2]
  simp [IntKind.wrap, IntKind.signed, IntKind.bits]
  omega
theorem rndN_lt {n : Nat} (h : n < 4294967296) : rndN n < 4294967296 := by
  unfold rndN
  split
  · exact Nat.xor_lt_two_pow (n := 32) (by omega) (by omega)
  · omega
theorem rnd_nat {n : Nat} (h : n < 4294967296) : rnd (n : Int) = ((rndN n : Nat) : Int) := by
  have e1 : Int.tmod (n : Int) 2 = ((n % 2 : Nat) : Int) := by
    rw [Int.tmod_eq_emod_of_nonneg (by omega)]; omega
  have e2 : wr .u32 (Int.tdiv (n : Int) 2) = ((n / 2 : Nat) : Int) := by
    have : Int.tdiv (n : Int) 2 = ((n / 2 : Nat) : Int) := by
      rw [Int.tdiv_eq_ediv_of_nonneg (by omega)]; omega
    rw [this]
    show ((n / 2 : Nat) : Int) % 4294967296 = _
    omega
  unfold rnd rndN
  rw [e1, e2]
  by_cases hp : n % 2 = 1
  · rw [if_pos (by omega), if_pos hp]
    exact ixor_nat (n / 2) 3558460437 (by omega) (by omega)
  · rw [if_neg (by omega), if_neg hp]
theorem rndsN_lt : ∀ (k : Nat) {n : Nat}, n < 4294967296 → rndsN k n < 4294967296
  | 0, _, h => h
  | k + 1, _, h => rndsN_lt k (rndN_lt h)
theorem rnds_nat : ∀ (k : Nat) {n : Nat}, n < 4294967296 → rnds k (n : Int) = ((rndsN k n : Nat) : Int)
  | 0, _, _ => rfl
  | k + 1, n, h => by
    show rnds k (rnd (n : Int)) = _
    rw [rnd_nat h, rnds_nat k (rndN_lt h)]
    rfl
theorem xor_byte_lt {b : Nat} (x : UInt8) (h : b < 4294967296) : b ^^^ x.toNat < 4294967296 := by
  have := x.toNat_lt
  exact Nat.xor_lt_two_pow (n := 32) h (by omega)
theorem sumN_lt : ∀ (l : List UInt8) {b : Nat}, b < 4294967296 → sumN l b < 4294967296
  | [], _, h => h
  | x :: r, _, h => sumN_lt r (rndsN_lt 8 (xor_byte_lt x h))
theorem sumF_nat : ∀ (l : List UInt8) {b : Nat}, b < 4294967296 → sumF l (b : Int) = ((sumN l b : Nat) : Int)
  | [], _, _ => rfl
  | x :: r, b, h => by
    have hx := x.toNat_lt
    have e : wr .u32 (x.toNat : Int) = ((x.toNat : Nat) : Int) := by
      show ((x.toNat : Nat) : Int) % 4294967296 = _
      omega
    show sumF r (rnds 8 (ixor .u32 (b : Int) (wr .u32 x.toNat))) = _
    rw [e, ixor_nat b x.toNat h (by omega), rnds_nat 8 (xor_byte_lt x h), sumF_nat r (rndsN_lt 8 (xor_byte_lt x h))]
    rfl
theorem xor_cancel {a b c : Nat} (h : a ^^^ c = b ^^^ c) : a = b := by
  have := congrArg (· ^^^ c) h
  simp only [Nat.xor_assoc, Nat.xor_self, Nat.xor_zero] at this
  exact this
theorem testBit_high {n : Nat} (h : n < 2147483648) : n.testBit 31 = false := Nat.testBit_lt_two_pow (by omega)
theorem rndN_inj {a b : Nat} (ha : a < 4294967296) (hb : b < 4294967296) (h : rndN a = rndN b) : a = b := by
  have top : ∀ n : Nat, n < 4294967296 → (rndN n).testBit 31 = decide (n % 2 = 1) := by
    intro n hn
    unfold rndN
    split
    · rename_i hp
      rw [Nat.testBit_xor, testBit_high (by omega), decide_eq_true hp]
      decide
    · rename_i hp
      rw [testBit_high (by omega), decide_eq_false hp]
  have h1 := top a ha
  have h2 := top b hb
  rw [h, h2] at h1
  have hp : a % 2 = 1 ↔ b % 2 = 1 := by
    have := decide_eq_decide.1 h1
    exact this.symm
  unfold rndN at h
  by_cases ho : a % 2 = 1
  · rw [if_pos ho, if_pos (hp.1 ho)] at h
    have := xor_cancel h
    have := hp.1 ho
    omega
  · rw [if_neg ho, if_neg (fun q => ho (hp.2 q))] at h
    have : ¬ b % 2 = 1 := fun q => ho (hp.2 q)
    omega
theorem rndsN_inj : ∀ (k : Nat) {a b : Nat}, a < 4294967296 → b < 4294967296 → rndsN k a = rndsN k b → a = b
  | 0, _, _, _, _, h => h
  | k + 1, _, _, ha, hb, h => rndN_inj ha hb (rndsN_inj k (rndN_lt ha) (rndN_lt hb) h)
theorem sumN_inj : ∀ (l : List UInt8) {a b : Nat}, a < 4294967296 → b < 4294967296 → sumN l a = sumN l b → a = b
  | [], _, _, _, _, h => h
  | x :: r, a, b, ha, hb, h => by
    have h1 := sumN_inj r (rndsN_lt 8 (xor_byte_lt x ha)) (rndsN_lt 8 (xor_byte_lt x hb)) h
    have h2 := rndsN_inj 8 (xor_byte_lt x ha) (xor_byte_lt x hb) h1
    exact xor_cancel h2
theorem sumN_app : ∀ (l m : List UInt8) (b : Nat), sumN (l ++ m) b = sumN m (sumN l b)
  | [], _, _ => rfl
  | x :: r, m, b => sumN_app r m _
/-- One byte turned: another sum. -/
theorem sumN_turn (p r : List UInt8) {x y : UInt8} (hxy : x ≠ y) {b : Nat} (hb : b < 4294967296) : sumN (p ++ x :: r) b ≠ sumN (p ++ y :: r) b := by
  intro h
  rw [sumN_app, sumN_app] at h
  have hp := sumN_lt p hb
  have h1 := sumN_inj r (rndsN_lt 8 (xor_byte_lt x hp)) (rndsN_lt 8 (xor_byte_lt y hp)) h
  have h2 := rndsN_inj 8 (xor_byte_lt x hp) (xor_byte_lt y hp) h1
  have h3 : x.toNat = y.toNat := by
    rw [Nat.xor_comm, Nat.xor_comm _ y.toNat] at h2
    exact xor_cancel h2
  exact hxy (UInt8.toNat_inj.1 h3)
theorem sumOf_nat (s : ByteArray) : sumOf s = ((sumN (bl s) 4294967295 : Nat) : Int) := sumF_nat (bl s) (b := 4294967295) (by omega)
theorem four_inj {a b : Int} (ha : U32 a) (hb : U32 b) (h : four a = four b) : a = b := by
  unfold U32 at ha hb
  have h1 := congrArg bl h
  unfold four at h1
  rw [bl_bstr, bl_bstr] at h1
  simp only [List.map_cons, List.map_nil, List.cons.injEq, and_true] at h1
  obtain ⟨e1, e2, e3, e4⟩ := h1
  have f : ∀ x y : Int, UInt8.ofNat (wr .u8 x).toNat = UInt8.ofNat (wr .u8 y).toNat → x % 256 = y % 256 := by
    intro x y hh
    have h2 := congrArg UInt8.toNat hh
    rw [UInt8.toNat_ofNat', UInt8.toNat_ofNat', wr8, wr8] at h2
    omega
  have e1 := f _ _ e1
  have e2 := f _ _ e2
  have e3 := f _ _ e3
  have e4 := f _ _ e4
  omega
theorem set_split {α : Type} {l : List α} {i : Nat} (h : i < l.length) (y : α) : l = l.take i ++ l[i] :: l.drop (i + 1) ∧ l.set i y = l.take i ++ y :: l.drop (i + 1) := by
  constructor
  · rw [← List.drop_eq_getElem_cons h, List.take_append_drop]
  · exact (List.set_eq_take_append_cons_drop).trans (by rw [if_pos h])
/-- A sealed text with one byte turned is none. -/
theorem unseal_turned {s t : ByteArray} {i : Nat} {y : UInt8} (hs : s.size ≤ 20000) (hi : i < s.size + 4) (ht : bl t = (bl (s ++ four (sumOf s))).set i y) (hy : (bl (s ++ four (sumOf s)))[i]? ≠ some y) : (unsealT t).2 = false := by
  have hsz : t.size = s.size + 4 := by
    rw [size_bl, ht, List.length_set, ← size_bl, size_append, four_size]
  unfold unsealT
  rw [if_neg (by omega)]
  rw [if_neg]
  intro hc
  obtain ⟨_, hc⟩ := hc
  have hfs := front_size t
  have hl := congrArg bl hc
  rw [ht, bl_append, bl_append] at hl
  by_cases hin : i < s.size
  · rw [List.set_append_left _ _ (by rw [← size_bl]; exact hin)] at hl
    obtain ⟨h1, h2⟩ := List.append_inj hl (by rw [List.length_set, ← size_bl, ← size_bl]; omega)
    have h3 := ba_ext h2
    have h4 := four_inj (u32_sumOf _) (u32_sumOf _) h3
    rw [sumOf_nat, sumOf_nat, h1] at h4
    have h5 : sumN ((bl s).set i y) 4294967295 = sumN (bl s) 4294967295 := Int.ofNat_inj.1 h4
    have hlt : i < (bl s).length := by rw [← size_bl]; exact hin
    obtain ⟨g1, g2⟩ := set_split hlt y
    rw [g2] at h5
    have h6 : (bl s)[i] ≠ y := by
      intro e
      apply hy
      rw [bl_append, List.getElem?_append_left hlt, List.getElem?_eq_getElem hlt, e]
    have g3 : sumN (bl s) 4294967295 = sumN ((bl s).take i ++ (bl s)[i] :: (bl s).drop (i + 1)) 4294967295 := by rw [← g1]
    rw [g3] at h5
    exact sumN_turn _ _ (fun e => h6 e.symm) (by omega) h5
  · rw [List.set_append_right _ _ (by rw [← size_bl]; omega)] at hl
    obtain ⟨h1, h2⟩ := List.append_inj hl (by rw [← size_bl, ← size_bl]; omega)
    have h3 := ba_ext h1
    rw [h3] at h2
    have hlt : i - (bl s).length < (bl (four (sumOf s))).length := by rw [← size_bl, ← size_bl, four_size]; omega
    have h4 := congrArg (fun l => l[i - (bl s).length]?) h2
    simp only [List.getElem?_set_self hlt] at h4
    apply hy
    rw [bl_append, List.getElem?_append_right (by rw [← size_bl]; omega)]
    exact h4
end Go.Sx
/- Small things: facts that are hidden, sums of beginnings. -/
set_option linter.unusedVariables false
set_option linter.unusedSimpArgs false
namespace Go.Sx
open Go.RowKit (wrap64)
/-- A fact that is kept, and that a search does not look at. -/
def Hid (p : Prop) : Prop := p
theorem Hid.mk {p : Prop} (h : p) : Hid p := h
theorem Hid.out {p : Prop} (h : Hid p) : p := h
theorem pulses_get {ts : List Tick} {j : Nat} (h : j < ts.length) : (pulses ts)[j]'(by rw [pulses_len]; exact h) = ts[j].1 := by
  unfold pulses
  rw [List.getElem_map]
theorem sum_take_succ {L : List Int} {c : Nat} (h : c < L.length) : (L.take (c + 1)).sum = (L.take c).sum + L[c] := by
  rw [List.take_succ_eq_append_getElem h, List.sum_append]
  simp
theorem take_bound {L : List Int} (h : ∀ x ∈ L, 0 ≤ x ∧ x ≤ 30) (hl : L.length ≤ 200) (j : Nat) : 0 ≤ (L.take j).sum ∧ (L.take j).sum ≤ 6000 := by
  have h1 := sum_le_30 (l := L.take j) (fun x hx => h x (List.mem_of_mem_take hx))
  have h2 : (L.take j).length ≤ L.length := by rw [List.length_take]; omega
  omega
theorem w64s {n : Int} (h0 : 0 ≤ n) (h1 : n ≤ 1000000000000) : wrap64 n = n := w64 (by omega) (by omega)
theorem w64n {n : Nat} (h : n ≤ 1000000000000) : wrap64 (n : Int) = (n : Int) := w64 (by omega) (by omega)
theorem win_bound {L : List Int} (h : ∀ x ∈ L, 0 ≤ x ∧ x ≤ 30) (hw : ∀ i, ((L.drop i).take 10).sum ≤ 30) (i c : Nat) (hc : c ≤ 10) : 0 ≤ ((L.drop i).take c).sum ∧ ((L.drop i).take c).sum ≤ 30 := by
  have h0 : ∀ x ∈ L.drop i, 0 ≤ x := fun x hx => (h x (List.mem_of_mem_drop hx)).1
  have e : (L.drop i).take c = ((L.drop i).take 10).take c := by
    rw [List.take_take, Nat.min_eq_left hc]
  have h1 := sum_take_le c (l := (L.drop i).take 10) (fun x hx => h0 x (List.mem_of_mem_take hx))
  have h2 := sum_nonneg (l := (L.drop i).take c) (fun x hx => h0 x (List.mem_of_mem_take hx))
  have h3 := hw i
  rw [← e] at h1
  omega
end Go.Sx
/- What alarms that are held tell tick by tick. -/
set_option linter.unusedVariables false
set_option linter.unusedSimpArgs false
namespace Go.Sx
open Go.RowKit (wrap64)
theorem zero_or : ∀ a : _root_.Fin 16, ior .i64 0 (a.val : Int) = (a.val : Int) := by decide +kernel
theorem zero_or' {a : Int} (ha : senseOk a = true) : ior .i64 0 a = a := by
  have ha := senseOk_den ha
  have h := zero_or ⟨a.toNat, by omega⟩
  simp only [Int.toNat_of_nonneg ha.1] at h
  exact h
theorem latF_at : ∀ (ts : List Tick) (is : List In) (m : Menu) (a : Int), senseOk a = true → latF ts is m a = true → ts.length = is.length → ∀ (j : Nat) (h1 : j < ts.length) (h2 : j < is.length), ∃ (m' : Menu) (a' : Int), senseOk a' = true ∧ (j = 0 → a' = a) ∧ (∀ i (hi : i + 1 = j), a' = (ts[i]'(by omega)).2.1) ∧ latC ts[j].2.1 is[j].1 a' (seenF (ordersOf m' is[j]).2) = true
  | [], _, _, _, _, _, _, j, h1, _ => by simp at h1
  | _ :: _, [], _, _, _, _, _, j, _, h2 => by simp at h2
  | t :: ts, i :: is, m, a, ha, h, hl, j, h1, h2 => by
    have h : (latC t.2.1 i.1 a (seenF (ordersOf m i).2) && latF ts is (ordersOf m i).1 t.2.1) = true := h
    rw [Bool.and_eq_true] at h
    have ht : senseOk t.2.1 = true := by
      have h3 := h.1
      unfold latC at h3
      simp only [Bool.and_eq_true] at h3
      exact h3.2.1
    cases j with
    | zero => exact ⟨m, a, ha, fun _ => rfl, fun i hi => by omega, h.1⟩
    | succ j =>
      simp only [List.length_cons] at h1 h2 hl
      obtain ⟨m', a', g0, g1, g2, g3⟩ := latF_at ts is _ _ ht h.2 (by omega) j (by omega) (by omega)
      refine ⟨m', a', g0, fun h => by omega, fun k hk => ?_, g3⟩
      cases k with
      | zero => exact g1 (by omega)
      | succ k => exact g2 k (by omega)
theorem latC_den {al bits a : Int} {sn : Bool} (h : latC al bits a sn = true) : senseOk bits = true ∧ senseOk al = true ∧ ior .i64 al bits = al ∧ (sn = true ∨ ior .i64 al a = al) := by
  unfold latC at h
  simp only [Bool.and_eq_true, Bool.or_eq_true, decide_eq_true_eq] at h
  exact h
theorem held_facts {ts : List Tick} {is : List In} (h : latched ts is = true) (hs : stops ts = true) (j : Nat) (h1 : j < ts.length) (h2 : j < is.length) :
    (ts[j].2.1 = 0 ∨ ts[j].1 = 0) ∧ (is[j].1 = 0 ∨ ts[j].2.1 ≠ 0) ∧ (∀ i (hi : i + 1 = j), is[j].2.1 = ⟨#[]⟩ → is[j].2.2 = ⟨#[]⟩ → ((ts[i]'(by omega)).2.1 = 0 ∨ ts[j].2.1 ≠ 0)) := by
  unfold latched at h
  rw [Bool.and_eq_true, decide_eq_true_eq] at h
  obtain ⟨m', a', g0, g1, g2, g3⟩ := latF_at ts is _ _ rfl h.2 h.1 j h1 h2
  obtain ⟨q1, q2, q3, q4⟩ := latC_den g3
  refine ⟨?_, ?_, fun i hi hk hl => ?_⟩
  · unfold stops at hs
    rw [List.all_eq_true] at hs
    exact of_decide_eq_true (hs ts[j] (List.getElem_mem h1))
  · by_cases hz : ts[j].2.1 = 0
    · rw [hz, zero_or' q1] at q3
      exact .inl q3
    · exact .inr hz
  · have hsn : seenF (ordersOf m' is[j]).2 = false := by
      have e : ordersOf m' is[j] = (m', []) := by
        unfold ordersOf
        rw [hk, hl, readO_empty, if_neg (by simp)]
        rfl
      rw [e]; rfl
    rw [hsn] at q4
    have q4 := q4.resolve_left (by simp)
    by_cases hz : ts[j].2.1 = 0
    · rw [hz, zero_or' g0] at q4
      exact .inl ((g2 i hi).symm.trans q4)
    · exact .inr hz
end Go.Sx
/- Lists that are marked. -/
set_option linter.unusedVariables false
set_option linter.unusedSimpArgs false
namespace Go.Sx
open Go.RowKit (wrap64)
theorem getD_set_self {α : Type} {l : List α} {i : Nat} {a d : α} (h : i < l.length) : (l.set i a).getD i d = a := by
  rw [List.getD_eq_getElem?_getD, List.getElem?_set_self h]; rfl
/-- A list whose beginning is filled. -/
def filled {α : Type} (f : Nat → α) (l : List α) (j : Nat) : List α := (List.range j).map f ++ l.drop j
theorem filled_len {α : Type} (f : Nat → α) (l : List α) {j : Nat} (h : j ≤ l.length) : (filled f l j).length = l.length := by
  unfold filled
  rw [List.length_append, List.length_map, List.length_range, List.length_drop]
  omega
theorem filled_zero {α : Type} (f : Nat → α) (l : List α) : filled f l 0 = l := rfl
theorem filled_all {α : Type} (f : Nat → α) (l : List α) : filled f l l.length = (List.range l.length).map f := by
  unfold filled
  rw [List.drop_length, List.append_nil]
theorem filled_set {α : Type} (f : Nat → α) (l : List α) {j : Nat} (h : j < l.length) : (filled f l j).set j (f j) = filled f l (j + 1) := by
  unfold filled
  have hc : l.drop j = l[j] :: l.drop (j + 1) := List.drop_eq_getElem_cons h
  rw [List.set_append_right _ _ (by rw [List.length_map, List.length_range]; omega), List.length_map, List.length_range, Nat.sub_self, hc, List.set_cons_zero, List.range_succ, List.map_append, List.append_assoc]
  rfl
def marksT (m : Int) (n : Nat) : List Tick := (List.range n).map fun (i : Nat) => (m + 3 * (i : Int), m + 3 * (i : Int) + 1, m + 3 * (i : Int) + 2)
theorem marksT_length (m : Int) (n : Nat) : (marksT m n).length = n := by simp [marksT]
theorem marksT_get (m : Int) {n i : Nat} (h : i < n) : (marksT m n)[i]'(by rw [marksT_length]; exact h) = (m + 3 * (i : Int), m + 3 * (i : Int) + 1, m + 3 * (i : Int) + 2) := by simp [marksT]
def marksO (m : Int) (n : Nat) : List Order := (List.range n).map fun (i : Nat) => (m + 4 * (i : Int), m + 4 * (i : Int) + 1, m + 4 * (i : Int) + 2, m + 4 * (i : Int) + 3)
theorem marksO_length (m : Int) (n : Nat) : (marksO m n).length = n := by simp [marksO]
theorem marksO_get (m : Int) {n i : Nat} (h : i < n) : (marksO m n)[i]'(by rw [marksO_length]; exact h) = (m + 4 * (i : Int), m + 4 * (i : Int) + 1, m + 4 * (i : Int) + 2, m + 4 * (i : Int) + 3) := by simp [marksO]
theorem marks_get' (m : Int) {n i : Nat} (h : i < n) : (marks m n)[i]'(by rw [marks_length]; exact h) = m + (i : Int) := by simp [marks]
theorem tickD_len (p : Pump) (past : List Int) (alarm : Int) (m : Menu) (ts : List Tick) (ref : Int) (i : In) :
    ∃ p' past' alarm' m' ts' ref', tickD p past alarm m ts ref i = dev p' past' alarm' m' ts' ref' ∧ past'.length ≤ past.length + 1 ∧ ts'.length ≤ ts.length + 1 := by
  unfold tickD
  split
  · exact ⟨_, _, _, _, _, _, rfl, pass_length _ _ _, by rw [List.length_append, List.length_singleton]; omega⟩
  · exact ⟨_, _, _, _, _, _, rfl, by omega, by omega⟩
theorem w3 {k : Int} (h0 : 0 ≤ k) (h1 : k ≤ 1000000000) : wrap64 (k + 1) = k + 1 ∧ wrap64 (wrap64 (k + 1) + 1) = k + 2 ∧ wrap64 (wrap64 (wrap64 (k + 1) + 1) + 1) = k + 3 ∧ wrap64 (wrap64 (wrap64 (wrap64 (k + 1) + 1) + 1) + 1) = k + 4 := by
  have e1 : wrap64 (k + 1) = k + 1 := w64s (by omega) (by omega)
  have e2 : wrap64 (k + 1 + 1) = k + 2 := by rw [w64s (by omega) (by omega)]; omega
  have e3 : wrap64 (k + 2 + 1) = k + 3 := by rw [w64s (by omega) (by omega)]; omega
  have e4 : wrap64 (k + 3 + 1) = k + 4 := by rw [w64s (by omega) (by omega)]; omega
  rw [e1, e2, e3, e4]
  exact ⟨rfl, rfl, rfl, rfl⟩
theorem ex_pos {α : Type} {c : Prop} [Decidable c] {a b : Option α} {P : α → Prop} (h : c) (k : ∃ r, a = some r ∧ P r) : ∃ r, (if c then a else b) = some r ∧ P r := by rw [if_pos h]; exact k
theorem ex_neg {α : Type} {c : Prop} [Decidable c] {a b : Option α} {P : α → Prop} (h : ¬ c) (k : ∃ r, b = some r ∧ P r) : ∃ r, (if c then a else b) = some r ∧ P r := by rw [if_neg h]; exact k
theorem ex_bind {α β : Type} {g : Option α} {f : α → Option β} {a : α} {P : β → Prop} (h : g = some a) (k : ∃ r, f a = some r ∧ P r) : ∃ r, g.bind f = some r ∧ P r := by rw [h]; exact k
end Go.Sx
/- Texts with one byte turned. -/
set_option linter.unusedVariables false
set_option linter.unusedSimpArgs false
namespace Go.Sx
open Go.RowKit (wrap64)
theorem ixor8 (a b : Nat) (ha : a < 256) (hb : b < 256) : ixor .u8 (a : Int) (b : Int) = ((a ^^^ b : Nat) : Int) := by
  have e : ixor .u8 (a : Int) (b : Int) = IntKind.u8.wrap (((BitVec.ofInt 8 (a : Int) ^^^ BitVec.ofInt 8 (b : Int)).toNat : Nat) : Int) := rfl
  have h1 : (BitVec.ofInt 8 (a : Int)).toNat = a := by rw [BitVec.ofInt_natCast, BitVec.toNat_ofNat]; omega
  have h2 : (BitVec.ofInt 8 (b : Int)).toNat = b := by rw [BitVec.ofInt_natCast, BitVec.toNat_ofNat]; omega
  have hl : a ^^^ b < 2 ^ 8 := Nat.xor_lt_two_pow ha hb
  rw [e, BitVec.toNat_xor, h1, h2]
  simp [IntKind.wrap, IntKind.signed, IntKind.bits]
  omega
theorem byl_bl (s : ByteArray) : byl s = (bl s).map fun b => (b.toNat : Int) := rfl
theorem turn_val {s : ByteArray} {i : Nat} (hi : i < s.size) {v : Nat} (hv0 : 0 < v) (hv : v < 256) : ∃ y, bl (bstr ((byl s).set i (ixor .u8 ((byl s).getD i 0) (v : Int)))) = (bl s).set i y ∧ (bl s)[i]? ≠ some y := by
  have hl : i < (bl s).length := by rw [bl_len]; exact hi
  have hx := UInt8.toNat_lt (bl s)[i]
  have hlt : (bl s)[i].toNat ^^^ v < 256 := Nat.xor_lt_two_pow (n := 8) hx hv
  refine ⟨UInt8.ofNat ((bl s)[i].toNat ^^^ v), ?_, ?_⟩
  · have e1 : (byl s).getD i 0 = (((bl s)[i].toNat : Nat) : Int) := by
      rw [byl_bl, List.getD_eq_getElem?_getD, List.getElem?_map, List.getElem?_eq_getElem hl]; rfl
    rw [e1, ixor8 _ _ hx hv, bl_bstr, byl_bl, List.map_set, List.map_map, Int.toNat_natCast]
    congr 1
    have e2 : ((fun n : Int => UInt8.ofNat n.toNat) ∘ fun b : UInt8 => ((b.toNat : Nat) : Int)) = id := by
      funext b
      show UInt8.ofNat ((b.toNat : Nat) : Int).toNat = b
      rw [Int.toNat_natCast, UInt8.ofNat_toNat]
    rw [e2, List.map_id]
  · rw [List.getElem?_eq_getElem hl]
    intro h
    have h := Option.some.inj h
    have h2 := congrArg UInt8.toNat h
    rw [UInt8.toNat_ofNat', Nat.mod_eq_of_lt hlt] at h2
    have h3 : 0 ^^^ (bl s)[i].toNat = v ^^^ (bl s)[i].toNat := by
      rw [Nat.zero_xor, Nat.xor_comm v, ← h2]
    have := xor_cancel h3
    omega
theorem tmod_at {x : Int} (h : 0 ≤ x) (n : Nat) : Int.tmod x (n : Int) = ((x.toNat % n : Nat) : Int) := by
  obtain ⟨m, rfl⟩ := Int.eq_ofNat_of_zero_le h
  rw [Int.tmod_eq_emod_of_nonneg (by omega), Int.toNat_natCast]; rfl
theorem turn_wr {x : Int} (h : 0 ≤ x) : wr .u8 (wrap64 (1 + Int.tmod x 255)) = ((1 + x.toNat % 255 : Nat) : Int) := by
  have e : Int.tmod x 255 = ((x.toNat % 255 : Nat) : Int) := tmod_at h 255
  have hb := Nat.mod_lt x.toNat (show 0 < 255 by decide)
  rw [e]
  generalize x.toNat % 255 = z at hb ⊢
  rw [w64 (by omega) (by omega)]
  show (1 + (z : Int)) % 256 = _
  omega
end Go.Sx
/- Orders there and back. -/
set_option linter.unusedVariables false
set_option linter.unusedSimpArgs false
namespace Go.Sx
open Go.RowKit (wrap64)
theorem orderT_ok (o : Order) : (orderT o).2 = orderOk o := by
  by_cases h : orderOk o = true
  · rw [(readO_order h).1, h]
  · unfold orderT
    rw [if_neg h, Bool.eq_false_iff.2 h]
theorem orderT_size (o : Order) : (orderT o).1.size ≤ 11 := by
  by_cases h : orderOk o = true
  · exact (readO_order h).2.1
  · unfold orderT
    rw [if_neg h]
    exact Nat.zero_le _
theorem readO_back {t : ByteArray} (h : (readO t).2 = true) : (orderT (readO t).1).1 = t := by
  by_cases hu : (unsealT t).2 = true ∧ 0 < (unsealT t).1.size
  case neg =>
    unfold readO at h
    rw [if_neg hu] at h
    cases h
  obtain ⟨hz, hj⟩ := unsealT_ok hu.1
  unfold readO at h ⊢
  rw [if_pos hu] at h ⊢
  have h0 := hu.2
  clear hu
  generalize (unsealT t).1 = s at hz hj h h0 ⊢
  by_cases hb : (numberF (numberF (numberF (s, 1, false)).2).2).2.2.2 = true
  · rw [if_pos hb] at h
    cases h
  rw [if_neg hb] at h ⊢
  have hb' : (numberF (numberF (numberF (s, 1, false)).2).2).2.2.2 = false := by simpa using hb
  obtain ⟨N1, N2, N3, e, r1, r2, r3, r4, le, tx⟩ := numberF_three h0 hb'
  rw [r1, r2, r3, r4] at h ⊢
  by_cases hc : (e : Int) = (s.size : Int) ∧ orderOk (byt s 0, (N1 : Int), (N2 : Int), (N3 : Int)) = true
  · rw [if_pos hc]
    unfold orderT
    rw [if_pos hc.2, tx, (seal_same s e hz le).2.2 (Int.ofNat_inj.1 hc.1)]
    exact hj
  · rw [if_neg hc] at h
    cases h
theorem readO_bent {t : ByteArray} (h : (unsealT t).2 = false) : readO t = ((0, 0, 0, 0), false) := by
  unfold readO
  rw [if_neg (fun q => by rw [h] at q; cases q.1)]
theorem orderT_turned {o : Order} (h : orderOk o = true) {t : ByteArray} {i : Nat} {y : UInt8} (hi : i < (orderT o).1.size) (ht : bl t = (bl (orderT o).1).set i y) (hy : (bl (orderT o).1)[i]? ≠ some y) : (unsealT t).2 = false := by
  have h2 := (readO_order h).1
  unfold orderT at h2 hi ht hy
  rw [if_pos h] at h2 hi ht hy
  unfold sealT at h2 hi ht hy
  by_cases hs : 20000 < (otext o).size
  · rw [if_pos hs] at h2
    cases h2
  · rw [if_neg hs] at hi ht hy
    have hi : i < (otext o ++ four (sumOf (otext o))).size := hi
    rw [size_append, four_size] at hi
    exact unseal_turned (by omega) hi ht hy
end Go.Sx
/- One tick of a new device: an order by keys, by the link, by a spoilt link. -/
set_option linter.unusedVariables false
set_option linter.unusedSimpArgs false
namespace Go.Sx
open Go.RowKit (wrap64)
theorem give_state1 {n d r l b g k m : Int} : 1 ≤ (give (1, n, d, r, l, b, g, k) m).1 := by
  unfold give
  simp only []
  split
  · split
    · show (1 : Int) ≤ 2; decide
    · show (1 : Int) ≤ 1; decide
  · show (1 : Int) ≤ 1; decide
theorem told_state {num den vol : Int} (h : orderOk (1, num, den, vol) = true) : 1 ≤ (tick (told num den vol) inE).1 := by
  have e := tick_empty (told_ok h) (by simp) (by omega)
  unfold told
  rw [e]
  exact give_state1
theorem tick_refused {t : ByteArray} (hz : t.size ≠ 0) (h40 : t.size ≤ 40) (h : (readO t).2 = false) : ∃ past ts, tick devNew (0, ⟨#[]⟩, t) = dev (0, 0, 1, 0, 0, 0, 0, 0) past 0 menuNew ts 1 := by
  have e0 : devNew = dev (0, 0, 1, 0, 0, 0, 0, 0) [] 0 menuNew [] 0 := rfl
  have hd0 : deviceOk (0, 0, 1, 0, 0, 0, 0, 0) [] 0 menuNew [] 0 = true := deviceOk_mk pumpNew_ok rfl menuNew_ok (Nat.zero_le _) (by omega)
  have hi : inOk (0, ⟨#[]⟩, t) = true := by
    unfold inOk
    show (senseOk 0 && (decide ((⟨#[]⟩ : ByteArray).size ≤ 20) && decide (t.size ≤ 40))) = true
    rw [decide_eq_true h40]
    rfl
  have ho : ordersOf menuNew (0, ⟨#[]⟩, t) = (menuNew, []) := by
    unfold ordersOf
    show (if (readO t).2 = true then _ else _) = _
    rw [if_neg (by rw [h]; exact Bool.false_ne_true)]
    rfl
  have hb1 : behind (0, 0, 1, 0, 0, 0, 0, 0) menuNew 0 (0, ⟨#[]⟩, t) = ((0, 0, 1, 0, 0, 0, 0, 0), 1) := by
    unfold behind
    rw [ho]
    rw [if_pos ⟨hz, h⟩]
    rfl
  have hs : seenF (ordersOf menuNew (0, ⟨#[]⟩, t)).2 = false := by rw [ho]; rfl
  have hf : feel [] 0 (0, (⟨#[]⟩ : ByteArray), t).1 false = 0 := feel_empty rfl
  have hp : tickP (0, 0, 1, 0, 0, 0, 0, 0) [] 0 = (0, 0, 1, 0, 0, 0, 0, 0) := rfl
  have e := tickD_live hd0 hi (by simp) (by omega)
  rw [hb1, hs, ho, hf, hp] at e
  exact ⟨_, _, e⟩
theorem links_nums (X Y Z : Int) (hX : 0 ≤ X) (hY : 0 ≤ Y) (hZ : 0 ≤ Z) : ∃ num den vol : Nat, wrap64 (1 + Int.tmod X 9) = (den : Int) ∧ wrap64 (3 * wrap64 (1 + Int.tmod X 9)) = ((3 * den : Nat) : Int) ∧ wrap64 (1 + Int.tmod Y (wrap64 (3 * wrap64 (1 + Int.tmod X 9)))) = (num : Int) ∧ wrap64 (1 + Int.tmod Z 90) = (vol : Int) ∧
    1 ≤ den ∧ den ≤ 9 ∧ 1 ≤ num ∧ num ≤ 3 * den ∧ 1 ≤ vol ∧ vol ≤ 90 := by
  have e1 : Int.tmod X 9 = ((X.toNat % 9 : Nat) : Int) := tmod_at hX 9
  have e3 : Int.tmod Z 90 = ((Z.toNat % 90 : Nat) : Int) := tmod_at hZ 90
  have b1 := Nat.mod_lt X.toNat (show 0 < 9 by decide)
  have b3 := Nat.mod_lt Z.toNat (show 0 < 90 by decide)
  generalize X.toNat % 9 = x at e1 b1
  generalize Z.toNat % 90 = z at e3 b3
  have d1 : wrap64 (1 + Int.tmod X 9) = ((1 + x : Nat) : Int) := by rw [e1, w64 (by omega) (by omega)]; omega
  have d3 : wrap64 (3 * wrap64 (1 + Int.tmod X 9)) = ((3 * (1 + x) : Nat) : Int) := by rw [d1, w64 (by omega) (by omega)]; omega
  have e2 := tmod_at hY (3 * (1 + x))
  have b2 := Nat.mod_lt Y.toNat (show 0 < 3 * (1 + x) by omega)
  generalize Y.toNat % (3 * (1 + x)) = y at e2 b2
  refine ⟨1 + y, 1 + x, 1 + z, d1, d3, ?_, ?_, by omega, by omega, by omega, by omega, by omega, by omega⟩
  · rw [d3, e2, w64 (by omega) (by omega)]; omega
  · rw [e3, w64 (by omega) (by omega)]; omega
theorem links_order {num den vol : Nat} (h : 1 ≤ den ∧ den ≤ 9 ∧ 1 ≤ num ∧ num ≤ 3 * den ∧ 1 ≤ vol ∧ vol ≤ 90) : orderOk (1, (num : Int), (den : Int), (vol : Int)) = true := by
  refine decide_eq_true ?_
  unfold OrderOkP
  omega
theorem told_keys {num den vol : Nat} (h : orderOk (1, (num : Int), (den : Int), (vol : Int)) = true) (h1 : num < 10000) (h2 : den < 10000) (h3 : vol < 10000) :
    tick devNew (0, bn [98] ++ decT num ++ bn [10] ++ decT den ++ bn [10] ++ decT vol ++ bn [10], ⟨#[]⟩) = tick (told num den vol) inE := by
  have z1 := decT_size (n := num)
  have z2 := decT_size (n := den)
  have z3 := decT_size (n := vol)
  have ho := pressAll_basal h1 h2 h3
  rw [if_pos h] at ho
  have hz : (bn [98] ++ decT num ++ bn [10] ++ decT den ++ bn [10] ++ decT vol ++ bn [10]).size ≤ 20 := by
    have y1 : (bn [98]).size = 1 := rfl
    have y2 : (bn [10]).size = 1 := rfl
    simp only [size_append]; omega
  generalize bn [98] ++ decT num ++ bn [10] ++ decT den ++ bn [10] ++ decT vol ++ bn [10] = K at ho hz ⊢
  refine tick_told h ?_ rfl ?_ (fun q => absurd rfl q)
  · unfold inOk
    show (senseOk 0 && (decide (K.size ≤ 20) && decide ((⟨#[]⟩ : ByteArray).size ≤ 40))) = true
    rw [decide_eq_true hz]
    rfl
  · unfold ordersOf
    have hr : (readO (⟨#[]⟩ : ByteArray)).2 = false := rfl
    show (if (readO (⟨#[]⟩ : ByteArray)).2 = true then _ else pressAll menuNew K) = _
    rw [hr, if_neg Bool.false_ne_true, ho]
end Go.Sx
/- Numbers as texts, texts joined: what the library's functions compute. -/
set_option linter.unusedVariables false
set_option linter.unusedSimpArgs false
namespace Go.Sx
open Go.RowKit (wrap64)
def joinF (l : List ByteArray) (t : ByteArray) : Option ByteArray :=
  if l.length ≤ 140737488355328 ∧ (Go.Lib.join (l.map (·.data.toList)) t.data.toList).length ≤ 140737488355328 then some ⟨(Go.Lib.join (l.map (·.data.toList)) t.data.toList).toArray⟩ else none
def itoaF (n : Int) : Option ByteArray := if -9223372036854775808 ≤ n ∧ n ≤ 9223372036854775807 then some ⟨(Go.Lib.itoa n).toArray⟩ else none
def decB (n : Nat) : ByteArray := ⟨(Go.Lib.decDigits n).toArray⟩
theorem bl_decB (n : Nat) : bl (decB n) = Go.Lib.decDigits n := by simp [bl, decB]
theorem itoaF_nat {n : Nat} (h : n ≤ 9223372036854775807) : itoaF (n : Int) = some (decB n) := by
  unfold itoaF
  rw [if_pos (by omega)]
  unfold Go.Lib.itoa
  rw [if_neg (by omega), Int.toNat_natCast]
  rfl
theorem decB_lt {n : Nat} (h : n < 10) (acc : ByteArray) : decB n ++ acc = bstr [((48 + n % 10 : Nat) : Int)] ++ acc := by
  apply ba_ext
  rw [bl_append, bl_append, bl_decB, Go.Lib.decDigits, dif_pos h, bl_bstr, Nat.mod_eq_of_lt h]
  rfl
theorem decB_ge {n : Nat} (h : ¬ n < 10) (acc : ByteArray) : decB n ++ acc = decB (n / 10) ++ (bstr [((48 + n % 10 : Nat) : Int)] ++ acc) := by
  apply ba_ext
  rw [bl_append, bl_append, bl_append, bl_decB, bl_decB, Go.Lib.decDigits, dif_neg h, bl_bstr, List.append_assoc]
  rfl
end Go.Sx
/- Texts in pieces, texts with bytes replaced, bytes found, numbers read: what the library's functions compute. -/
set_option linter.unusedVariables false
set_option linter.unusedSimpArgs false
namespace Go.Sx
open Go.RowKit (wrap64)
open Go.Lib (index indexB indexByte count countB splitK splitB replaceK replaceAll index_one)
def ofL (l : List UInt8) : ByteArray := ⟨l.toArray⟩
theorem bl_ofL (l : List UInt8) : bl (ofL l) = l := by simp [bl, ofL]
theorem ofL_bl (s : ByteArray) : ofL (bl s) = s := by apply ba_ext; rw [bl_ofL]
theorem ofL_inj {a b : List UInt8} (h : ofL a = ofL b) : a = b := by rw [← bl_ofL a, h, bl_ofL]
theorem size_ofL (l : List UInt8) : (ofL l).size = l.length := by rw [← bl_len, bl_ofL]
/-- A text cut at every byte c. -/
def cutL (c : UInt8) : List UInt8 → List (List UInt8)
  | [] => [[]]
  | b :: l => if b = c then [] :: cutL c l else match cutL c l with
    | [] => [[b]]
    | p :: ps => (b :: p) :: ps
theorem cutL_ne (c : UInt8) (l : List UInt8) : cutL c l ≠ [] := by
  cases l with
  | nil => simp [cutL]
  | cons b l =>
    unfold cutL
    split
    · simp
    · split <;> simp
theorem splitK_ne (c : UInt8) (n : Nat) (s : List UInt8) : splitK [c] 0 n s ≠ [] := by
  cases n with
  | zero => simp [splitK]
  | succ n => unfold splitK; split <;> simp
theorem splitK_cut (c : UInt8) : ∀ (s : List UInt8), splitK [c] 0 (count s [c]) s = cutL c s
  | [] => by
    rw [Go.Lib.count_one]
    rfl
  | b :: s => by
    have ih := splitK_cut c s
    rw [Go.Lib.count_one] at ih ⊢
    unfold cutL
    by_cases hb : b = c
    · subst hb
      rw [if_pos rfl, ← ih]
      have hc : (b :: s).count b = s.count b + 1 := by simp
      rw [hc]
      have hi : index (b :: s) [b] = 0 := by rw [index_one]; unfold indexByte; rw [if_pos (by simp)]
      show (if index (b :: s) [b] == -1 then [b :: s] else (b :: s).take ((index (b :: s) [b]).toNat + 0) :: splitK [b] 0 (s.count b) ((b :: s).drop ((index (b :: s) [b]).toNat + 1))) = _
      rw [hi]
      rfl
    · rw [if_neg hb]
      have hc : (b :: s).count c = s.count c := by rw [List.count_cons_of_ne hb]
      rw [hc, ← ih]
      have hi : index (b :: s) [c] = if indexByte s c == -1 then -1 else indexByte s c + 1 := by
        rw [index_one]
        show (if b == c then 0 else if indexByte s c == -1 then -1 else indexByte s c + 1) = _
        rw [if_neg (by simpa using hb)]
      cases hn : s.count c with
      | zero => rfl
      | succ n =>
        show (if index (b :: s) [c] == -1 then [b :: s] else (b :: s).take ((index (b :: s) [c]).toNat + 0) :: splitK [c] 0 n ((b :: s).drop ((index (b :: s) [c]).toNat + 1))) = match (if index s [c] == -1 then [s] else s.take ((index s [c]).toNat + 0) :: splitK [c] 0 n (s.drop ((index s [c]).toNat + 1))) with
          | [] => [[b]]
          | p :: ps => (b :: p) :: ps
        rw [hi, index_one]
        have hge := Go.Lib.indexByte_ge s c
        by_cases hm : indexByte s c = -1
        · rw [hm]; rfl
        · have h1 : ¬ (indexByte s c == -1) = true := by simpa using hm
          rw [if_neg h1, if_neg h1]
          have h2 : ¬ (indexByte s c + 1 == -1) = true := by
            intro q; have := beq_iff_eq.1 q; omega
          rw [if_neg h2]
          have e : (indexByte s c + 1).toNat = (indexByte s c).toNat + 1 := by omega
          rw [e]
          rfl
def splitF (s sep : ByteArray) : Option (List ByteArray) := if s.size < 4294967281 ∧ 1 ≤ sep.size then some (splitB sep 0 (countB s sep) s) else none
theorem splitF_one (s : ByteArray) (c : UInt8) (h : s.size < 4294967281) : splitF s ⟨#[c]⟩ = some ((cutL c (bl s)).map ofL) := by
  unfold splitF
  rw [if_pos ⟨h, Nat.le_refl 1⟩]
  congr 1
  have e := Go.Lib.splitB_data ⟨#[c]⟩ 0 (countB s ⟨#[c]⟩) s
  have e2 : (splitB ⟨#[c]⟩ 0 (countB s ⟨#[c]⟩) s).map bl = cutL c (bl s) := e.trans (splitK_cut c (bl s))
  rw [← e2, List.map_map]
  conv => lhs; rw [← List.map_id (splitB ⟨#[c]⟩ 0 (countB s ⟨#[c]⟩) s)]
  apply List.map_congr_left
  intro x _
  exact (ofL_bl x).symm
theorem splitF_len {s sep : ByteArray} {l : List ByteArray} (h : splitF s sep = some l) : l.length ≤ s.size + 1 := by
  unfold splitF at h
  split at h
  · rename_i hh
    injection h with h
    subst h
    rw [Go.Lib.splitB_all sep hh.2 0 _ s rfl]
    have := Go.Lib.countB_le sep hh.2 s.size s (Nat.le_refl _)
    omega
  · cases h
/-- A byte for a byte. -/
def turnL (a b : UInt8) (l : List UInt8) : List UInt8 := l.map fun x => if x = a then b else x
theorem replaceK_turn (a b : UInt8) : ∀ (s : List UInt8), replaceK [a] [b] (count s [a]) s = turnL a b s
  | [] => by rw [Go.Lib.count_one]; rfl
  | x :: s => by
    have ih := replaceK_turn a b s
    rw [Go.Lib.count_one] at ih ⊢
    by_cases hx : x = a
    · subst hx
      have hc : (x :: s).count x = s.count x + 1 := by simp
      rw [hc]
      have hi : index (x :: s) [x] = 0 := by rw [index_one]; unfold indexByte; rw [if_pos (by simp)]
      show (if index (x :: s) [x] == -1 then x :: s else (x :: s).take (index (x :: s) [x]).toNat ++ [b] ++ replaceK [x] [b] (s.count x) ((x :: s).drop ((index (x :: s) [x]).toNat + 1))) = _
      rw [hi]
      show b :: replaceK [x] [b] (s.count x) s = _
      rw [ih]
      simp [turnL]
    · have hc : (x :: s).count a = s.count a := by rw [List.count_cons_of_ne hx]
      rw [hc]
      have hi : index (x :: s) [a] = if indexByte s a == -1 then -1 else indexByte s a + 1 := by
        rw [index_one]
        show (if x == a then 0 else if indexByte s a == -1 then -1 else indexByte s a + 1) = _
        rw [if_neg (by simpa using hx)]
      have e0 : turnL a b (x :: s) = x :: turnL a b s := by simp [turnL, hx]
      rw [e0, ← ih]
      cases hn : s.count a with
      | zero => rfl
      | succ n =>
        show (if index (x :: s) [a] == -1 then x :: s else (x :: s).take (index (x :: s) [a]).toNat ++ [b] ++ replaceK [a] [b] n ((x :: s).drop ((index (x :: s) [a]).toNat + 1))) =
          x :: (if index s [a] == -1 then s else s.take (index s [a]).toNat ++ [b] ++ replaceK [a] [b] n (s.drop ((index s [a]).toNat + 1)))
        rw [hi, index_one]
        have hge := Go.Lib.indexByte_ge s a
        by_cases hm : indexByte s a = -1
        · rw [hm]; rfl
        · have h1 : ¬ (indexByte s a == -1) = true := by simpa using hm
          rw [if_neg h1, if_neg h1]
          have h2 : ¬ (indexByte s a + 1 == -1) = true := by
            intro q; have := beq_iff_eq.1 q; omega
          rw [if_neg h2]
          have e : (indexByte s a + 1).toNat = (indexByte s a).toNat + 1 := by omega
          rw [e]
          rfl
def replaceF (s old new : ByteArray) : Option ByteArray := if s.size < 4294967281 ∧ 1 ≤ old.size ∧ s.size + countB s old * new.size ≤ 140737488355328 then some ⟨(replaceAll s.data.toList old.data.toList new.data.toList).toArray⟩ else none
theorem replaceF_one (s : ByteArray) (a b : UInt8) (hab : a ≠ b) (h : s.size < 4294967281) : replaceF s ⟨#[a]⟩ ⟨#[b]⟩ = some (ofL (turnL a b (bl s))) := by
  unfold replaceF
  have hle := Go.Lib.countB_le ⟨#[a]⟩ (Nat.le_refl 1) s.size s (Nat.le_refl _)
  have hz : (⟨#[b]⟩ : ByteArray).size = 1 := rfl
  rw [if_pos ⟨h, Nat.le_refl 1, by rw [hz]; omega⟩]
  congr 1
  show ofL (Go.Lib.replace (bl s) [a] [b] (-1)) = _
  congr 1
  unfold Go.Lib.replace
  rw [if_neg (by simpa using hab)]
  unfold Go.Lib.replaceNum
  rw [if_pos (Or.inl (by decide))]
  exact replaceK_turn a b (bl s)
def indexByteF (s : ByteArray) (n : Int) : Int := indexByte (bl s) n.toNat.toUInt8
/-- What impl.ReadDecimal tells. -/
def readDecF (s : ByteArray) : Int × Bool := match Go.Lib.atoiAll (bl s) with
  | .ok n => if 0 ≤ n ∧ n ≤ 1000000000 ∧ ofL (Go.Lib.itoa n) = s then (n, true) else (0, false)
  | _ => (0, false)
end Go.Sx
/- Numbers that are read, lines, parts of lines. -/
set_option linter.unusedVariables false
set_option linter.unusedSimpArgs false
namespace Go.Sx
open Go.RowKit (wrap64)
open Go.Lib (decDigits itoa parseUint10 parseMag atoiAll)
def dig (c : UInt8) : Prop := 48 ≤ c.toNat ∧ c.toNat ≤ 57
instance (c : UInt8) : Decidable (dig c) := by unfold dig; infer_instance
def valL (a : Nat) (l : List UInt8) : Nat := l.foldl (fun a c => a * 10 + (c.toNat - 48)) a
theorem valL_cons (a : Nat) (c : UInt8) (l : List UInt8) : valL a (c :: l) = valL (a * 10 + (c.toNat - 48)) l := by unfold valL; rw [List.foldl_cons]
theorem valL_ge : ∀ (l : List UInt8) (a : Nat), a ≤ valL a l
  | [], a => Nat.le_refl a
  | c :: l, a => by
    rw [valL_cons]
    have := valL_ge l (a * 10 + (c.toNat - 48))
    omega
theorem ofNat_dig {d : Nat} (h : d < 10) : (UInt8.ofNat (48 + d)).toNat = 48 + d := by
  have k : ∀ d : _root_.Fin 10, (UInt8.ofNat (48 + d.val)).toNat = 48 + d.val := by decide
  exact k ⟨d, h⟩
theorem itoa_nat (u : Nat) : Go.Lib.itoa (u : Int) = decDigits u := by
  unfold Go.Lib.itoa
  rw [if_neg (by omega), Int.toNat_natCast]
theorem dec_dig : ∀ (u : Nat), ∀ c ∈ decDigits u, dig c := by
  intro u
  induction u using Nat.strongRecOn with
  | ind u ih =>
    intro c hc
    rw [decDigits] at hc
    split at hc
    · rename_i h
      rw [List.mem_singleton] at hc
      subst hc
      unfold dig
      rw [ofNat_dig h]
      omega
    · rename_i h
      rw [List.mem_append, List.mem_singleton] at hc
      rcases hc with hc | hc
      · exact ih (u / 10) (by omega) c hc
      · subst hc
        unfold dig
        rw [ofNat_dig (by omega)]
        omega
theorem dec_val : ∀ (u : Nat), valL 0 (decDigits u) = u := by
  intro u
  induction u using Nat.strongRecOn with
  | ind u ih =>
    rw [decDigits]
    split
    · rename_i h
      show 0 * 10 + ((UInt8.ofNat (48 + u)).toNat - 48) = u
      rw [ofNat_dig h]
      omega
    · rename_i h
      unfold valL
      rw [List.foldl_append]
      have := ih (u / 10) (by omega)
      unfold valL at this
      rw [this]
      show u / 10 * 10 + ((UInt8.ofNat (48 + u % 10)).toNat - 48) = u
      rw [ofNat_dig (by omega)]
      omega
theorem dec_ne (u : Nat) : decDigits u ≠ [] := by
  rw [decDigits]
  split <;> simp
theorem dec_len : ∀ (k u : Nat), u < 10 ^ (k + 1) → (decDigits u).length ≤ k + 1
  | 0, u, h => by
    rw [decDigits, dif_pos (by simpa using h)]
    simp
  | k + 1, u, h => by
    rw [decDigits]
    split
    · simp
    · have := dec_len k (u / 10) (by rw [Nat.pow_succ] at h; omega)
      rw [List.length_append]
      simp only [List.length_singleton]
      omega
theorem parse_val : ∀ (l : List UInt8) (a : Nat), (∀ c ∈ l, dig c) → valL a l ≤ 1000000000 → parseUint10 a l = .ok (valL a l)
  | [], a, _, _ => rfl
  | c :: l, a, hd, hv => by
    rw [valL_cons] at hv ⊢
    have h1 := hd c List.mem_cons_self
    have h2 := valL_ge l (a * 10 + (c.toNat - 48))
    unfold parseUint10
    have h1' : 48 ≤ c.toNat ∧ c.toNat ≤ 57 := h1
    rw [if_pos h1', if_neg (by omega), if_neg (by omega)]
    exact parse_val l _ (fun x hx => hd x (List.mem_cons_of_mem _ hx)) hv
theorem atoi_dec {v : Nat} (h : v ≤ 1000000000) : atoiAll (decDigits v) = .ok (v : Int) := by
  have hp := parse_val (decDigits v) 0 (dec_dig v) (by rw [dec_val]; exact h)
  rw [dec_val] at hp
  have hd := dec_dig v
  have hne := dec_ne v
  cases hl : decDigits v with
  | nil => exact absurd hl hne
  | cons c r =>
    rw [hl] at hp hd
    have h1 := hd c List.mem_cons_self
    unfold dig at h1
    have hm : parseMag (c :: r) = .ok v := by
      unfold parseMag
      rw [if_neg (by simp)]
      exact hp
    unfold atoiAll
    have e1 : ¬ (c.toNat = 43 ∨ c.toNat = 45) := by omega
    have e2 : ¬ c.toNat = 45 := by omega
    simp only [if_neg e1, hm]
    rw [if_neg (fun q => by have := q.2; omega), if_neg (fun q => e2 q.1), if_neg e2]
/-- What is read as a number. -/
def DecP (s : ByteArray) : Prop := (∀ c ∈ bl s, dig c) ∧ s.size ≤ 10 ∧ valL 0 (bl s) ≤ 1000000000 ∧ decB (valL 0 (bl s)) = s
instance (s : ByteArray) : Decidable (DecP s) := by unfold DecP; infer_instance
def decR (s : ByteArray) : Int × Bool := if DecP s then ((valL 0 (bl s) : Int), true) else (0, false)
theorem decR_dec {v : Nat} (h : v ≤ 1000000000) : decR (decB v) = ((v : Int), true) := by
  have hp : DecP (decB v) := by
    unfold DecP
    rw [bl_decB, dec_val]
    refine ⟨dec_dig v, ?_, h, rfl⟩
    rw [← bl_len, bl_decB]
    exact dec_len 9 v (by omega)
  unfold decR
  rw [if_pos hp, bl_decB, dec_val]
theorem readDec_eq (s : ByteArray) : readDecF s = decR s := by
  by_cases hp : DecP s
  · have hp' := hp
    obtain ⟨h1, h2, h3, h4⟩ := hp
    have e : bl s = decDigits (valL 0 (bl s)) := by
      have := congrArg bl h4
      rw [bl_decB] at this
      exact this.symm
    have ha : atoiAll (bl s) = .ok ((valL 0 (bl s) : Nat) : Int) := by
      have := atoi_dec h3
      rw [← e] at this
      exact this
    unfold readDecF decR
    rw [if_pos hp', ha]
    simp only []
    have hc : (0 : Int) ≤ ((valL 0 (bl s) : Nat) : Int) ∧ ((valL 0 (bl s) : Nat) : Int) ≤ 1000000000 ∧ ofL (itoa ((valL 0 (bl s) : Nat) : Int)) = s := ⟨by omega, by omega, by rw [itoa_nat]; exact h4⟩
    rw [if_pos hc]
  · unfold readDecF
    have e : decR s = (0, false) := by unfold decR; rw [if_neg hp]
    rw [e]
    cases ha : atoiAll (bl s) with
    | ok n =>
      simp only []
      split
      · rename_i h
        exfalso
        obtain ⟨h1, h2, h3⟩ := h
        obtain ⟨v, rfl⟩ : ∃ v : Nat, n = (v : Int) := ⟨n.toNat, by omega⟩
        rw [itoa_nat] at h3
        have h3' : decB v = s := h3
        have := decR_dec (v := v) (by omega)
        rw [h3', e] at this
        injection this with _ h
        cases h
      · rfl
    | _ => rfl
def readDecG (s : ByteArray) : Option (Int × Bool) := if s.size ≤ 281474976710656 then some (readDecF s) else none
/-! ### lines and parts -/
/-- Lines: the last piece is none where it is empty. -/
def dropE (l : List (List UInt8)) : List (List UInt8) := if l.getLast? = some [] then l.dropLast else l
def linesF (s : ByteArray) : List ByteArray := (dropE (cutL 10 (bl s))).map ofL
/-- The same, from a piece on. -/
def linesP (p : List UInt8) : List UInt8 → List (List UInt8)
  | [] => if p = [] then [] else [p]
  | b :: l => if b = 10 then p :: linesP [] l else linesP (p ++ [b]) l
/-- What stands ahead of the first cut. -/
def cutP (c : UInt8) (p l : List UInt8) : List (List UInt8) := match cutL c l with
  | [] => [p]
  | q :: qs => (p ++ q) :: qs
theorem cutP_nil (c : UInt8) (p : List UInt8) : cutP c p [] = [p] := by simp [cutP, cutL]
theorem cutP_hit (c : UInt8) (p l : List UInt8) : cutP c p (c :: l) = p :: cutL c l := by simp [cutP, cutL]
theorem cutP_step {c b : UInt8} (h : b ≠ c) (p l : List UInt8) : cutP c p (b :: l) = cutP c (p ++ [b]) l := by
  unfold cutP
  show (match (if b = c then [] :: cutL c l else match cutL c l with
    | [] => [[b]]
    | p :: ps => (b :: p) :: ps) with
    | [] => [p]
    | q :: qs => (p ++ q) :: qs) = _
  rw [if_neg h]
  cases cutL c l <;> simp
theorem cutP_empty (c : UInt8) (l : List UInt8) : cutP c [] l = cutL c l := by
  unfold cutP
  cases h : cutL c l with
  | nil => exact absurd h (cutL_ne c l)
  | cons q qs => rfl
theorem dropE_cons (p : List UInt8) {l : List (List UInt8)} (h : l ≠ []) : dropE (p :: l) = p :: dropE l := by
  unfold dropE
  obtain ⟨q, r, rfl⟩ := List.exists_cons_of_ne_nil h
  rw [List.getLast?_cons_cons]
  split
  · rw [List.dropLast_cons_of_ne_nil (by simp)]
  · rfl
theorem linesP_cut : ∀ (l p : List UInt8), linesP p l = dropE (cutP 10 p l)
  | [], p => by
    rw [cutP_nil]
    unfold linesP dropE
    by_cases h : p = []
    · subst h; rfl
    · rw [if_neg h, if_neg (by simpa using h)]
  | b :: l, p => by
    unfold linesP
    by_cases h : b = 10
    · subst h
      rw [if_pos rfl, cutP_hit, dropE_cons _ (cutL_ne _ _), linesP_cut l [], cutP_empty]
    · rw [if_neg h, cutP_step h, linesP_cut l]
theorem linesF_P (s : ByteArray) : linesF s = (linesP [] (bl s)).map ofL := by
  unfold linesF
  rw [linesP_cut, cutP_empty]
def okB (b : UInt8) : Bool := decide (32 ≤ b.toNat ∧ b.toNat ≤ 126)
def okLine (s : ByteArray) : Bool := decide (s.size ≤ 600) && (bl s).all okB
def keepL (l : List (List UInt8)) : List (List UInt8) := l.filter fun p => !p.isEmpty
def partsF (s : ByteArray) : List ByteArray × Bool :=
  if okLine s = true ∧ (keepL (cutL 32 (bl s))).length ≤ 10 then ((keepL (cutL 32 (bl s))).map ofL, true) else ([], false)
def PartsP (p l : List UInt8) : List (List UInt8) := keepL (cutP 32 p l)
theorem PartsP_nil (p : List UInt8) : PartsP p [] = if p = [] then [] else [p] := by
  unfold PartsP
  rw [cutP_nil]
  cases p <;> rfl
theorem PartsP_hit (p l : List UInt8) : PartsP p (32 :: l) = (if p = [] then [] else [p]) ++ PartsP [] l := by
  unfold PartsP
  rw [cutP_hit, cutP_empty]
  cases p <;> rfl
theorem PartsP_step {b : UInt8} (h : b ≠ 32) (p l : List UInt8) : PartsP p (b :: l) = PartsP (p ++ [b]) l := by
  unfold PartsP
  rw [cutP_step h]
/-! ### bytes in figures -/
def hexV (x : UInt8) : Int := if 48 ≤ x.toNat ∧ x.toNat ≤ 57 then (x.toNat : Int) - 48 else if 97 ≤ x.toNat ∧ x.toNat ≤ 102 then (x.toNat : Int) - 97 + 10 else -1
def hexS : ByteArray := ⟨#[48, 49, 50, 51, 52, 53, 54, 55, 56, 57, 97, 98, 99, 100, 101, 102]⟩
theorem hex_index : ∀ x : UInt8, Go.Lib.indexByte (bl hexS) x = hexV x := by
  intro x
  have h : ∀ n : _root_.Fin 256, Go.Lib.indexByte (bl hexS) (UInt8.ofNat n.val) = hexV (UInt8.ofNat n.val) := by decide +kernel
  have := h ⟨x.toNat, x.toNat_lt⟩
  simpa using this
theorem hexV_range (x : UInt8) : -1 ≤ hexV x ∧ hexV x ≤ 15 := by
  unfold hexV
  split
  · omega
  · split <;> omega
def unhexL : List UInt8 → Option (List UInt8)
  | a :: b :: r => if 0 ≤ hexV a ∧ 0 ≤ hexV b then (unhexL r).map fun l => UInt8.ofNat (16 * hexV a + hexV b).toNat :: l else none
  | _ => some []
def unhexF (s : ByteArray) : ByteArray × Bool := if s.size % 2 = 0 ∧ s.size ≤ 40000 then (match unhexL (bl s) with
  | some l => (ofL l, true)
  | none => (⟨#[]⟩, false)) else (⟨#[]⟩, false)
end Go.Sx
/- Functions of the library, by their contracts: numbers and texts in, numbers and texts out. -/
set_option linter.unusedVariables false
set_option linter.unusedSimpArgs false
namespace Go.Sx
open Go.RowKit Go.Deep
theorem Mem.below {base : Nat} {G : Nat → Prop} {w0 w w' : World} {hp : Hp} {ν : Nat → Value} (h : Mem base G w0 w hp ν) (hb : Below w.heap.size w w') : Mem base G w0 w' hp ν :=
  ⟨fun n => (h.ent n).frame fun hl g hg => hb.block g (blk_lt (h.ent n) hl g hg), h.sep, h.mine,
    ⟨hb.os.trans h.fr.os, hb.tape.trans h.fr.tape, hb.output.trans h.fr.output, Nat.le_trans h.fr.size hb.size, Nat.le_trans h.fr.bs hb.size,
      fun k hk hg => (hb.block k (by have := h.fr.bs; omega)).trans (h.fr.block k hk hg)⟩⟩
theorem arg_int {hp : Hp} {ν : Nat → Value} {k : IntKind} {sa : SV} {n : Int} {v : Value} (h : mA hp (.c (.int k)) sa = some n) (hv : VRel hp ν sa v) : v = .int k n := by
  unfold mA at h
  match sa, h with
  | .a false [.int k' m], h =>
    unfold mC at h
    simp only [] at h
    obtain ⟨hk, h2⟩ := cnd_some (α := Int) h
    obtain ⟨y, hy, hc⟩ := hv
    injection hy with hy _
    subst hy
    have hk2 : k = k' := by
      revert hk; cases k <;> cases k' <;> first | exact fun _ => rfl | (intro hk; cases hk)
    subst hk2
    subst h2
    exact hc
theorem arg_str {hp : Hp} {ν : Nat → Value} {sa : SV} {s : ByteArray} {v : Value} (h : mA hp (.c .str) sa = some s) (hv : VRel hp ν sa v) : v = .string s := by
  unfold mA at h
  match sa, h with
  | .a false [.str t], h =>
    unfold mC at h
    obtain ⟨y, hy, hc⟩ := hv
    injection hy with hy _
    subst hy
    have h : some t = some s := h
    injection h with h
    subst h
    exact hc
/-- A function from numbers and texts to a text (or a number) that touches nothing old. -/
theorem con_i_s {P : Program} {f : FuncId} {k : IntKind} {fn : Nat → AKs [.c (.int k)] → Option (OKs [.v false [.str]])} (hE : Enters P f)
    (h : ∀ (j : Nat) (n : Int) (b : ByteArray), fn j n = some b → ∀ (base : Nat) (G : Nat → Prop) (w0 w : World) (hp : Hp) (ν : Nat → Value), Tabs P base G w0 → Mem base G w0 w hp ν →
      Calls P f #[.int k n] w fun e w' => e = .returned (.string b) ∧ Below w.heap.size w w') : CtrOK P f ⟨[.c (.int k)], 1, [.v false [.str]], fn⟩ := by
  refine ⟨hE, ?_⟩
  intro j x b hfn base G w0 w hp ν args vargs nm hT hm hargs hmA hap hfree
  match args, hargs, hmA with
  | [sa], hargs, hmA =>
    cases hl : vargs.toList with
    | nil => rw [hl] at hargs; exact hargs.elim
    | cons v r =>
      rw [hl] at hargs
      obtain ⟨h1, h2⟩ := hargs
      cases r with
      | cons _ _ => exact h2.elim
      | nil =>
        have hv := arg_int hmA h1
        have hva : vargs = #[.int k x] := by
          rw [← hv]; exact Array.toList_inj.1 hl
        rw [hva]
        refine (h j x b hfn base G w0 w hp ν hT hm).mono ?_
        rintro e w' ⟨rfl, hb⟩
        exact ⟨_, ν, rfl, ⟨_, rfl, rfl⟩, hm.below hb, .refl _ _⟩
theorem mAs_two {hp : Hp} {k1 k2 : AK} {r : List AK} {s1 s2 : SV} {y : List SV} {x : AKs (k1 :: k2 :: r)} (h : mAs hp (k1 :: k2 :: r) (s1 :: s2 :: y) = some x) : mA hp k1 s1 = some x.1 ∧ mAs hp (k2 :: r) (s2 :: y) = some x.2 := by
  have h' : ((match mA hp k1 s1, mAs hp (k2 :: r) (s2 :: y) with
    | some a, some b => some (a, b)
    | _, _ => none) : Option (k1.T × AKs (k2 :: r))) = some x := h
  clear h
  cases e1 : mA hp k1 s1 with
  | none => rw [e1] at h'; exact no_some (α := k1.T × AKs (k2 :: r)) h'
  | some a =>
    cases e2 : mAs hp (k2 :: r) (s2 :: y) with
    | none => rw [e1, e2] at h'; exact no_some (α := k1.T × AKs (k2 :: r)) h'
    | some b =>
      rw [e1, e2] at h'
      have h2 : (a, b) = x := Option.some.inj h'
      subst h2
      exact ⟨rfl, rfl⟩
theorem args1 {hp : Hp} {ν : Nat → Value} {k1 : AK} {args : List SV} {vargs : Array Value} {x : AKs [k1]} (h : VsRel hp ν args vargs.toList) (hm : mAs hp [k1] args = some x) :
    ∃ s1 v1, args = [s1] ∧ vargs = #[v1] ∧ mA hp k1 s1 = some x ∧ VRel hp ν s1 v1 := by
  have hl := mAs_len [k1] x args hm
  have hl2 := vs_len h
  match args, hl with
  | [s1], _ =>
    match hv : vargs.toList, hl2 with
    | [v1], _ =>
      rw [hv] at h
      exact ⟨s1, v1, rfl, Array.toList_inj.1 hv, hm, h.1⟩
theorem args2 {hp : Hp} {ν : Nat → Value} {k1 k2 : AK} {args : List SV} {vargs : Array Value} {x : AKs [k1, k2]} (h : VsRel hp ν args vargs.toList) (hm : mAs hp [k1, k2] args = some x) :
    ∃ s1 s2 v1 v2, args = [s1, s2] ∧ vargs = #[v1, v2] ∧ mA hp k1 s1 = some x.1 ∧ mA hp k2 s2 = some x.2 ∧ VRel hp ν s1 v1 ∧ VRel hp ν s2 v2 := by
  have hl := mAs_len [k1, k2] x args hm
  have hl2 := vs_len h
  match args, hl with
  | [s1, s2], _ =>
    match hv : vargs.toList, hl2 with
    | [v1, v2], _ =>
      rw [hv] at h
      obtain ⟨e1, e2⟩ := mAs_two hm
      exact ⟨s1, s2, v1, v2, rfl, Array.toList_inj.1 hv, e1, e2, h.1, h.2.1⟩
theorem args3 {hp : Hp} {ν : Nat → Value} {k1 k2 k3 : AK} {args : List SV} {vargs : Array Value} {x : AKs [k1, k2, k3]} (h : VsRel hp ν args vargs.toList) (hm : mAs hp [k1, k2, k3] args = some x) :
    ∃ s1 s2 s3 v1 v2 v3, args = [s1, s2, s3] ∧ vargs = #[v1, v2, v3] ∧ mA hp k1 s1 = some x.1 ∧ mA hp k2 s2 = some x.2.1 ∧ mA hp k3 s3 = some x.2.2 ∧ VRel hp ν s1 v1 ∧ VRel hp ν s2 v2 ∧ VRel hp ν s3 v3 := by
  have hl := mAs_len [k1, k2, k3] x args hm
  have hl2 := vs_len h
  match args, hl with
  | [s1, s2, s3], _ =>
    match hv : vargs.toList, hl2 with
    | [v1, v2, v3], _ =>
      rw [hv] at h
      obtain ⟨e1, e2⟩ := mAs_two hm
      obtain ⟨e2, e3⟩ := mAs_two e2
      exact ⟨s1, s2, s3, v1, v2, v3, rfl, Array.toList_inj.1 hv, e1, e2, e3, h.1, h.2.1, h.2.2.1⟩
theorem con_si_i {P : Program} {f : FuncId} {k : IntKind} {fn : Nat → AKs [.c .str, .c (.int k)] → Option (OKs [.v false [.int .i64]])} (hE : Enters P f)
    (h : ∀ (j : Nat) (s : ByteArray) (n : Int) (b : Int), fn j (s, n) = some b → ∀ w, Calls P f #[.string s, .int k n] w fun e w' => e = .returned (.int .i64 b) ∧ Below w.heap.size w w') : CtrOK P f ⟨[.c .str, .c (.int k)], 1, [.v false [.int .i64]], fn⟩ := by
  refine ⟨hE, ?_⟩
  intro j x b hfn base G w0 w hp ν args vargs nm hT hm hargs hmA hap hfree
  obtain ⟨s1, s2, v1, v2, rfl, rfl, e1, e2, r1, r2⟩ := args2 hargs hmA
  have hv1 := arg_str e1 r1
  have hv2 := arg_int e2 r2
  subst hv1 hv2
  refine (h j x.1 x.2 b hfn w).mono ?_
  rintro e w' ⟨rfl, hb⟩
  exact ⟨_, ν, rfl, ⟨_, rfl, rfl⟩, hm.below hb, .refl _ _⟩
theorem con_sss_s {P : Program} {f : FuncId} {fn : Nat → AKs [.c .str, .c .str, .c .str] → Option (OKs [.v false [.str]])} (hE : Enters P f)
    (h : ∀ (j : Nat) (s t u : ByteArray) (b : ByteArray), fn j (s, t, u) = some b → ∀ (base : Nat) (G : Nat → Prop) (w0 w : World) (hp : Hp) (ν : Nat → Value), Tabs P base G w0 → Mem base G w0 w hp ν →
      Calls P f #[.string s, .string t, .string u] w fun e w' => e = .returned (.string b) ∧ Below w.heap.size w w') : CtrOK P f ⟨[.c .str, .c .str, .c .str], 1, [.v false [.str]], fn⟩ := by
  refine ⟨hE, ?_⟩
  intro j x b hfn base G w0 w hp ν args vargs nm hT hm hargs hmA hap hfree
  obtain ⟨s1, s2, s3, v1, v2, v3, rfl, rfl, e1, e2, e3, r1, r2, r3⟩ := args3 hargs hmA
  have hv1 := arg_str e1 r1
  have hv2 := arg_str e2 r2
  have hv3 := arg_str e3 r3
  subst hv1 hv2 hv3
  refine (h j x.1 x.2.1 x.2.2 b hfn base G w0 w hp ν hT hm).mono ?_
  rintro e w' ⟨rfl, hb⟩
  exact ⟨_, ν, rfl, ⟨_, rfl, rfl⟩, hm.below hb, .refl _ _⟩
/-- A text to a number and a bool. -/
theorem con_s_ib {P : Program} {f : FuncId} {fn : Nat → AKs [.c .str] → Option (OKs [.v false [.int .i64], .v false [.bool]])} (hE : Enters P f)
    (h : ∀ (j : Nat) (s : ByteArray) (b : Int × Bool), fn j s = some b → ∀ (base : Nat) (G : Nat → Prop) (w0 w : World) (hp : Hp) (ν : Nat → Value), Tabs P base G w0 → Mem base G w0 w hp ν →
      Calls P f #[.string s] w fun e w' => e = .returned (.tuple #[.int .i64 b.1, .bool b.2]) ∧ Below w.heap.size w w') : CtrOK P f ⟨[.c .str], 2, [.v false [.int .i64], .v false [.bool]], fn⟩ := by
  refine ⟨hE, ?_⟩
  intro j x b hfn base G w0 w hp ν args vargs nm hT hm hargs hmA hap hfree
  obtain ⟨s1, v1, rfl, rfl, e1, r1⟩ := args1 hargs hmA
  have hv1 := arg_str e1 r1
  subst hv1
  refine (h j x b hfn base G w0 w hp ν hT hm).mono ?_
  rintro e w' ⟨rfl, hb⟩
  exact ⟨_, ν, rfl, ⟨_, rfl, ⟨_, rfl, rfl⟩, ⟨_, rfl, rfl⟩, trivial⟩, hm.below hb, .refl _ _⟩
theorem flat_str (l : List ByteArray) : (Ty.str).flat l = l.map Value.string := by
  show List.flatMap (Ty.cells .str) l = _
  induction l with
  | nil => rfl
  | cons a r ih =>
    show Value.string a :: List.flatMap (Ty.cells .str) r = _
    rw [ih]
    rfl
/-- Two texts to a list of texts of one's own. -/
theorem con_ss_own {P : Program} {f : FuncId} {el : TypeId} {fn : Nat → AKs [.c .str, .c .str] → Option (OKs [.v false [.own .str el]])} (hE : Enters P f)
    (h : ∀ (j : Nat) (s t : ByteArray) (l : List ByteArray), fn j (s, t) = some l → ∀ (base : Nat) (G : Nat → Prop) (w0 w : World) (hp : Hp) (ν : Nat → Value), Tabs P base G w0 → Mem base G w0 w hp ν →
      l.length ≤ maxLen ∧ Calls P f #[.string s, .string t] w fun e w' => e = .returned (.slice (some ⟨w.heap.size, 0, none⟩) l.length l.length) ∧ w' = w.alloc (.cells (l.map Value.string).toArray el)) : CtrOK P f ⟨[.c .str, .c .str], 1, [.v false [.own .str el]], fn⟩ := by
  refine ⟨hE, ?_⟩
  intro j x (b : List ByteArray) hfn base G w0 w hp ν args vargs nm hT hm hargs hmA hap hfree
  obtain ⟨s1, s2, v1, v2, rfl, rfl, e1, e2, r1, r2⟩ := args2 hargs hmA
  have hv1 := arg_str e1 r1
  have hv2 := arg_str e2 r2
  subst hv1 hv2
  obtain ⟨hmax, hc⟩ := h j x.1 x.2 b hfn base G w0 w hp ν hT hm
  refine hc.mono ?_
  rintro e w' ⟨rfl, rfl⟩
  have hnf : hp nm = .free := by
    have h1 : freeN hp nm 1 = true := hfree
    unfold freeN at h1
    split at h1
    · assumption
    · cases h1
  have hflat := flat_str b
  have hbe : Below w.heap.size w (w.alloc (.cells (b.map Value.string).toArray el)) := (Below.refl _ _).alloc (Nat.le_refl _) _
  have hnew := hm.new (nm := nm) (e := .row .str b el) (v := .slice (some ⟨w.heap.size, 0, none⟩) b.length b.length) hnf hbe.os hbe.tape hbe.output hbe.size hbe.block
    (fun g hg => by injection hg with hg; exact Nat.le_of_eq hg) ?_ (by simp)
  · exact ⟨_, _, rfl, ⟨_, rfl, by show (upd hp nm (.row .str b el)) nm ≠ .free; rw [upd_same]; simp, (upd_same _ _ _).symm, _, _, _, rfl⟩, hnew.1, hnew.2⟩
  · refine ⟨by rw [hflat, List.length_map]; show b.length = b.length * 1; omega, .inr ⟨w.heap.size, b.length, (b.map Value.string).toArray, rfl, Nat.zero_le _, ?_, Nat.le_refl _, hmax, ?_, ?_⟩⟩
    · show (w.heap.push (Obj.cells (List.map Value.string b).toArray el))[w.heap.size]? = _
      simp
    · show (b.map Value.string).toArray.size = b.length * 1
      simp
    · rw [hflat]
      show List.take (b.length * 1) (b.map Value.string) = _
      rw [Nat.mul_one, List.take_of_length_le (by simp)]
theorem arg_strs {base : Nat} {G : Nat → Prop} {w0 w : World} {hp : Hp} {ν : Nat → Value} {sa : SV} {l : List ByteArray} {v : Value} (hm : Mem base G w0 w hp ν) (h : mA hp (.c (.sl .str)) sa = some l) (hv : VRel hp ν sa v) :
    ∃ A c, v = .slice A l.length c ∧ l.length ≤ c ∧ l.length ≤ maxLen ∧ (l ≠ [] → ∃ b o, A = some ⟨b, o, none⟩ ∧ b < w.heap.size ∧ ∀ (j : Nat) x, l[j]? = some x → w.cell? ⟨b, o + j, none⟩ = some (.string x)) := by
  match sa, h with
  | .a false [y], h =>
    obtain ⟨y', hy, hc⟩ := hv
    injection hy with hy _
    subst hy
    have hr := readL_rel (mC_sl h) hc hm
    obtain ⟨A, c, h1, h2, h3, h4⟩ := hr
    refine ⟨A, c, h1, h2, h3, fun hl => ?_⟩
    obtain ⟨a, ha, hcell⟩ := h4 hl
    have hflat := flat_str
    have hcell2 : ∀ (j : Nat) x, l[j]? = some x → w.cell? (a.add j) = some (.string x) := fun j x hx => hcell j _ (by rw [hflat, List.getElem?_map, hx]; rfl)
    obtain ⟨x0, r0, rfl⟩ := List.exists_cons_of_ne_nil hl
    have h0 := hcell2 0 x0 rfl
    obtain ⟨b, o, sp⟩ := a
    have e0 : Addr.add ⟨b, o, sp⟩ 0 = ⟨b, o, sp⟩ := rfl
    rw [e0] at h0
    have hsp : sp = none := by
      cases sp with
      | none => rfl
      | some q =>
        unfold World.cell? at h0
        split at h0
        · cases h0
        · cases h0
    subst hsp
    refine ⟨b, o, ha, ?_, fun j x hx => ?_⟩
    · unfold World.cell? at h0
      split at h0
      · rename_i hh
        exact (Array.getElem?_eq_some_iff.1 hh).1
      · cases h0
    · have := hcell2 j x hx
      cases j with
      | zero => exact this
      | succ j => exact this
/-- Texts to a text. -/
theorem con_ls_s {P : Program} {f : FuncId} {fn : Nat → AKs [.c (.sl .str), .c .str] → Option (OKs [.v false [.str]])} (hE : Enters P f)
    (h : ∀ (j : Nat) (l : List ByteArray) (t : ByteArray) (b : ByteArray), fn j (l, t) = some b → ∀ (A : Option Addr) (c : Nat) (w : World), l.length ≤ c → l.length ≤ maxLen →
      (l ≠ [] → ∃ b o, A = some ⟨b, o, none⟩ ∧ b < w.heap.size ∧ ∀ (j : Nat) x, l[j]? = some x → w.cell? ⟨b, o + j, none⟩ = some (.string x)) →
      Calls P f #[.slice A l.length c, .string t] w fun e w' => e = .returned (.string b) ∧ Below w.heap.size w w') : CtrOK P f ⟨[.c (.sl .str), .c .str], 1, [.v false [.str]], fn⟩ := by
  refine ⟨hE, ?_⟩
  intro j x b hfn base G w0 w hp ν args vargs nm hT hm hargs hmA hap hfree
  obtain ⟨s1, s2, v1, v2, rfl, rfl, e1, e2, r1, r2⟩ := args2 hargs hmA
  obtain ⟨A, c, rfl, h1, h2, h3⟩ := arg_strs hm e1 r1
  have hv2 := arg_str e2 r2
  subst hv2
  refine (h j x.1 x.2 b hfn A c w h1 h2 h3).mono ?_
  rintro e w' ⟨rfl, hb⟩
  exact ⟨_, ν, rfl, ⟨_, rfl, rfl⟩, hm.below hb, .refl _ _⟩
end Go.Sx
/- Functions of the library: what its variables hold, calls by contract out of hand walks. -/
set_option linter.unusedVariables false
set_option linter.unusedSimpArgs false
namespace Go.Sx
open Go.RowKit Go.Deep
theorem tabs_now {P : Program} {base : Nat} {G : Nat → Prop} {w0 w : World} {hp : Hp} {ν : Nat → Value} (hT : Tabs P base G w0) (hm : Mem base G w0 w hp ν) : Tabs P w.heap.size (fun _ => False) w := by
  intro name hn g hg
  obtain ⟨h1, h2, cs, t, z, h3, h4⟩ := hT name hn g hg
  exact ⟨Nat.lt_of_lt_of_le h1 hm.fr.bs, fun q => q, cs, t, z, (hm.fr.block g h1 h2).trans h3, h4⟩
theorem tabs_below {P : Program} {w w' : World} (hT : Tabs P w.heap.size (fun _ => False) w) (hb : Below w.heap.size w w') : Tabs P w'.heap.size (fun _ => False) w' := by
  intro name hn g hg
  obtain ⟨h1, h2, cs, t, z, h3, h4⟩ := hT name hn g hg
  exact ⟨Nat.lt_of_lt_of_le h1 hb.size, h2, cs, t, z, (hb.block g h1).trans h3, h4⟩
theorem tabs_var {P : Program} {w : World} {n : Nat} {G : Nat → Prop} (hT : Tabs P n G w) (name : String) (hn : name ∈ tabNames) (hs : (P.globalNamed name).isSome = true) : ∃ cs, w.var? P name = some cs ∧ laidAs name cs := by
  obtain ⟨g, hg⟩ := Option.isSome_iff_exists.1 hs
  obtain ⟨h1, h2, cs, t, z, h3, h4⟩ := hT name hn g hg
  refine ⟨cs, ?_, h4⟩
  unfold World.var?
  rw [hg, Option.bind_some, h3]
theorem tabs_pow {P : Program} {w : World} {n : Nat} {G : Nat → Prop} (hT : Tabs P n G w) (hs : (P.globalNamed "internal/strconv.uint64pow10").isSome = true) : Lib.TabIs P w "internal/strconv.uint64pow10" .u64 Lib.pow10Tab := by
  obtain ⟨cs, h1, h2⟩ := tabs_var hT "internal/strconv.uint64pow10" (by simp [tabNames]) hs
  unfold Lib.TabIs
  rw [h1, h2.1 rfl]
  rfl
theorem tabs_syntax {P : Program} {w : World} {n : Nat} {G : Nat → Prop} (hT : Tabs P n G w) (hs : (P.globalNamed "strconv.ErrSyntax").isSome = true) : ∃ tp p, w.var? P "strconv.ErrSyntax" = some #[.iface tp p] := by
  obtain ⟨cs, h1, h2⟩ := tabs_var hT "strconv.ErrSyntax" (by simp [tabNames]) hs
  obtain ⟨tp, p, rfl⟩ := h2.2.1 (.inl rfl)
  exact ⟨tp, p, h1⟩
theorem tabs_range {P : Program} {w : World} {n : Nat} {G : Nat → Prop} (hT : Tabs P n G w) (hs : (P.globalNamed "strconv.ErrRange").isSome = true) : ∃ tp p, w.var? P "strconv.ErrRange" = some #[.iface tp p] := by
  obtain ⟨cs, h1, h2⟩ := tabs_var hT "strconv.ErrRange" (by simp [tabNames]) hs
  obtain ⟨tp, p, rfl⟩ := h2.2.1 (.inr rfl)
  exact ⟨tp, p, h1⟩
theorem tabs_maxlen {P : Program} {w : World} {n : Nat} {G : Nat → Prop} (hT : Tabs P n G w) {g : Nat} (hg : P.globalNamed "internal/bytealg.MaxLen" = some g) : ∃ m, w.cell? ⟨g, 0, none⟩ = some (.int .i64 m) := by
  obtain ⟨h1, h2, cs, t, z, h3, h4⟩ := hT "internal/bytealg.MaxLen" (by simp [tabNames]) g hg
  obtain ⟨m, hm⟩ := h4.2.2 rfl
  refine ⟨m, ?_⟩
  unfold World.cell?
  simp only [h3]
  exact hm
end Go.Sx
/- The row's opening where library variables are laid: the world's shape is kept for the walk. -/
set_option linter.unusedVariables false
set_option linter.unusedSimpArgs false
namespace Go.Sx
open Go Go.RowKit
variable {H : Type} {enc : TypeId × Value → H}
theorem returns_and_shaped {a : Assume} {C : Checked} {os : Os} {f : FuncId} {fn : Func} {s : ChangeSpec} {conds : List PathCond} {apart fresh handsOn again : Bool} {X : World → Array Value → Prop}
    (hX : ∀ (w w' : World) (args : Array Value), w.heap = w'.heap → X w args → X w' args)
    (own : ownKnob C.prog.godebug = none) (started : os.Started) (noInit : C.prog.inits.idxOf? f = none) (hfn : C.prog.funcs[f]? = some fn)
    (witness : ∃ (w : World) (tape : Tape) (i : Input), w.os = os ∧ (w.forCall tape i).Shaped C.prog ∧ i.vars = [] ∧ Input.okWide C.prog (w.forCall tape i) .any w.heap.size f i ∧
      ((s.pre enc C.prog fn conds apart (w.forCall tape i).memory i.args ∧ X (w.forCall tape i).memory i.args) ∧ sizedMet enc C.prog fn (OpenSpec.ofChange s) apart (w.forCall tape i).memory i.args) ∧ a.holds C.prog (lone (Frame.enter C.prog f i.args .normal) [] (w.forCall tape i)))
    (contract : ∀ (W : World) (base : Nat) (args : Array Value) (ds gs : List (DataW H)) (before : List MemPlace),
      (∀ (j : Nat) t v, fn.params[j]? = some t → args[j]? = some v → Value.okWide C.prog W .any base t v) →
      DataW.Whole enc C.prog fn.params.toList s.vars apart W args.toList ds gs before →
      conds.all (PathCond.test C.prog ⟨fn.params.toList, ds, s.plain.varTypes C.prog, gs⟩) = true →
      (DataW.weightsEach C.prog (fn.params.toList ++ s.plain.varTypes C.prog) (ds ++ gs)).all (· ≤ reachBytes) = true → X W args →
      W.ShapedOpen C.prog →
      Calls C.prog f args W fun e W' => ∃ v, e = .returned v ∧ s.post enc C.prog fn apart fresh handsOn again W args v W') :
    ReturnsInHanded a C os f .any (fun w args => (s.pre enc C.prog fn conds apart w args ∧ X w args) ∧ sizedMet enc C.prog fn (OpenSpec.ofChange s) apart w args) (s.post enc C.prog fn apart fresh handsOn again) := by
  refine returnsInHanded_of_calls own started noInit witness ?_
  intro w tape i _ hsh _ hok hpre hholds
  obtain ⟨_, _, _, fn', hfn', _, _, _, _, hval⟩ := hok
  have e : fn' = fn := Option.some.inj (hfn'.symm.trans hfn)
  subst e
  obtain ⟨⟨⟨ds, gs, before, hw, hc⟩, hx⟩, hz⟩ := hpre
  have hw' := DataW.Whole.of_heap (w' := w.forCall tape i) (by rfl) hw
  refine (contract (w.forCall tape i) w.heap.size i.args ds gs before hval hw' hc (hz.weights hw) (hX _ _ _ (by rfl) hx) hsh).mono fun e W' ⟨v, he, hp⟩ => ?_
  subst he
  exact ChangeSpec.post_blind hp
/-- A variable's block. -/
theorem var_block {P : Program} {w : World} {name : String} {cs : Array Value} {g : Nat} (hg : P.globalNamed name = some g) (h : w.var? P name = some cs) : g < w.heap.size ∧ ∃ t z, w.heap[g]? = some (.cells cs t z) := by
  unfold World.var? at h
  rw [hg, Option.bind_some] at h
  split at h
  · rename_i cs' t z hh
    injection h with h
    subst h
    exact ⟨(Array.getElem?_eq_some_iff.1 hh).1, t, z, hh⟩
  · cases h
theorem tab_at {P : Program} {w : World} {name : String} {cs : Array Value} (h : w.var? P name = some cs) (hl : laidAs name cs) : ∀ g, P.globalNamed name = some g → g < w.heap.size ∧ ¬ False ∧ ∃ cs t z, w.heap[g]? = some (.cells cs t z) ∧ laidAs name cs := by
  intro g hg
  obtain ⟨h1, t, z, h2⟩ := var_block hg h
  exact ⟨h1, fun q => q, cs, t, z, h2, hl⟩
theorem tab_pow {P : Program} {w : World} (h : Lib.TabIs P w "internal/strconv.uint64pow10" .u64 Lib.pow10Tab) : ∀ g, P.globalNamed "internal/strconv.uint64pow10" = some g → g < w.heap.size ∧ ¬ False ∧ ∃ cs t z, w.heap[g]? = some (.cells cs t z) ∧ laidAs "internal/strconv.uint64pow10" cs :=
  tab_at h ⟨fun _ => rfl, fun q => by simp at q, fun q => by simp at q⟩
theorem tab_err {P : Program} {w : World} {name : String} {tp : TypeId} {p : Value} (hn : name = "strconv.ErrSyntax" ∨ name = "strconv.ErrRange") (h : w.var? P name = some #[.iface tp p]) : ∀ g, P.globalNamed name = some g → g < w.heap.size ∧ ¬ False ∧ ∃ cs t z, w.heap[g]? = some (.cells cs t z) ∧ laidAs name cs :=
  tab_at h ⟨fun q => by subst q; simp at hn, fun _ => ⟨tp, p, rfl⟩, fun q => by subst q; simp at hn⟩
theorem tab_max {P : Program} {w : World} {g0 : Nat} (hg0 : P.globalNamed "internal/bytealg.MaxLen" = some g0) (h : ∃ m, w.cell? ⟨g0, 0, none⟩ = some (.int .i64 m)) : ∀ g, P.globalNamed "internal/bytealg.MaxLen" = some g → g < w.heap.size ∧ ¬ False ∧ ∃ cs t z, w.heap[g]? = some (.cells cs t z) ∧ laidAs "internal/bytealg.MaxLen" cs := by
  intro g hg
  obtain rfl := Option.some.inj (hg0.symm.trans hg)
  obtain ⟨m, hm⟩ := h
  unfold World.cell? at hm
  split at hm
  · rename_i cs t z hh
    exact ⟨(Array.getElem?_eq_some_iff.1 hh).1, fun q => q, cs, t, z, hh, fun q => by simp at q, fun q => by simp at q, fun _ => ⟨m, hm⟩⟩
  · cases hm
theorem tab_none {P : Program} {w : World} {name : String} (h : P.globalNamed name = none) : ∀ g, P.globalNamed name = some g → g < w.heap.size ∧ ¬ False ∧ ∃ cs t z, w.heap[g]? = some (.cells cs t z) ∧ laidAs name cs := by
  intro g hg
  rw [h] at hg
  cases hg
theorem tabs_mk {P : Program} {w : World} (h1 : ∀ g, P.globalNamed "internal/strconv.uint64pow10" = some g → g < w.heap.size ∧ ¬ False ∧ ∃ cs t z, w.heap[g]? = some (.cells cs t z) ∧ laidAs "internal/strconv.uint64pow10" cs)
    (h2 : ∀ g, P.globalNamed "strconv.ErrSyntax" = some g → g < w.heap.size ∧ ¬ False ∧ ∃ cs t z, w.heap[g]? = some (.cells cs t z) ∧ laidAs "strconv.ErrSyntax" cs)
    (h3 : ∀ g, P.globalNamed "strconv.ErrRange" = some g → g < w.heap.size ∧ ¬ False ∧ ∃ cs t z, w.heap[g]? = some (.cells cs t z) ∧ laidAs "strconv.ErrRange" cs)
    (h4 : ∀ g, P.globalNamed "internal/bytealg.MaxLen" = some g → g < w.heap.size ∧ ¬ False ∧ ∃ cs t z, w.heap[g]? = some (.cells cs t z) ∧ laidAs "internal/bytealg.MaxLen" cs) : Tabs P w.heap.size (fun _ => False) w := by
  intro name hn g hg
  simp only [tabNames, List.mem_cons, List.not_mem_nil, or_false] at hn
  rcases hn with rfl | rfl | rfl | rfl
  · exact h1 g hg
  · exact h2 g hg
  · exact h3 g hg
  · exact h4 g hg
end Go.Sx
