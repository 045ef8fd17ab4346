/- A sum tells any one byte that is turned. -/
import Derived.Test.YtkcfdkfdmglamaaSyP11
set_option linter.unusedVariables false
set_option linter.unusedSimpArgs false
namespace Go.Sx
open Go.RowKit (wrap64)
def rndN (n : Nat) : Nat := if n % 2 = 1 then n / 2 ^^^ 3558460437 else n / 2
def rndsN : Nat → Nat → Nat
  | 0, b => b
  | n + 1, b => rndsN n (rndN b)
def sumN : List UInt8 → Nat → Nat
  | [], b => b
  | x :: r, b => sumN r (rndsN 8 (b ^^^ x.toNat))
theorem ixor_nat (a b : Nat) (ha : a < 4294967296) (hb : b < 4294967296) : ixor .u32 (a : Int) (b : Int) = ((a ^^^ b : Nat) : Int) := by
  have e : ixor .u32 (a : Int) (b : Int) = IntKind.u32.wrap (((BitVec.ofInt 32 (a : Int) ^^^ BitVec.ofInt 32 (b : Int)).toNat : Nat) : Int) := rfl
  have h1 : (BitVec.ofInt 32 (a : Int)).toNat = a := by rw [BitVec.ofInt_natCast, BitVec.toNat_ofNat]; omega
  have h2 : (BitVec.ofInt 32 (b : Int)).toNat = b := by rw [BitVec.ofInt_natCast, BitVec.toNat_ofNat]; omega
  have hl : a ^^^ b < 2 ^ 32 := Nat.xor_lt_two_pow ha hb
  rw [e, BitVec.toNat_xor, h1, h2]
  simp [IntKind.wrap, IntKind.signed, IntKind.bits]
  omega
theorem rndN_lt {n : Nat} (h : n < 4294967296) : rndN n < 4294967296 := by
  unfold rndN
  split
  · exact Nat.xor_lt_two_pow (n := 32) (by omega) (by omega)
  · omega
theorem rnd_nat {n : Nat} (h : n < 4294967296) : rnd (n : Int) = ((rndN n : Nat) : Int) := by
  have e1 : Int.tmod (n : Int) 2 = ((n % 2 : Nat) : Int) := by
    rw [Int.tmod_eq_emod_of_nonneg (by omega)]; omega
  have e2 : wr .u32 (Int.tdiv (n : Int) 2) = ((n / 2 : Nat) : Int) := by
    have : Int.tdiv (n : Int) 2 = ((n / 2 : Nat) : Int) := by
      rw [Int.tdiv_eq_ediv_of_nonneg (by omega)]; omega
    rw [this]
    show ((n / 2 : Nat) : Int) % 4294967296 = _
    omega
  unfold rnd rndN
  rw [e1, e2]
  by_cases hp : n % 2 = 1
  · rw [if_pos (by omega), if_pos hp]
    exact ixor_nat (n / 2) 3558460437 (by omega) (by omega)
  · rw [if_neg (by omega), if_neg hp]
theorem rndsN_lt : ∀ (k : Nat) {n : Nat}, n < 4294967296 → rndsN k n < 4294967296
  | 0, _, h => h
  | k + 1, _, h => rndsN_lt k (rndN_lt h)
theorem rnds_nat : ∀ (k : Nat) {n : Nat}, n < 4294967296 → rnds k (n : Int) = ((rndsN k n : Nat) : Int)
  | 0, _, _ => rfl
  | k + 1, n, h => by
    show rnds k (rnd (n : Int)) = _
    rw [rnd_nat h, rnds_nat k (rndN_lt h)]
    rfl
theorem xor_byte_lt {b : Nat} (x : UInt8) (h : b < 4294967296) : b ^^^ x.toNat < 4294967296 := by
  have := x.toNat_lt
  exact Nat.xor_lt_two_pow (n := 32) h (by omega)
theorem sumN_lt : ∀ (l : List UInt8) {b : Nat}, b < 4294967296 → sumN l b < 4294967296
  | [], _, h => h
  | x :: r, _, h => sumN_lt r (rndsN_lt 8 (xor_byte_lt x h))
theorem sumF_nat : ∀ (l : List UInt8) {b : Nat}, b < 4294967296 → sumF l (b : Int) = ((sumN l b : Nat) : Int)
  | [], _, _ => rfl
  | x :: r, b, h => by
    have hx := x.toNat_lt
    have e : wr .u32 (x.toNat : Int) = ((x.toNat : Nat) : Int) := by
      show ((x.toNat : Nat) : Int) % 4294967296 = _
      omega
    show sumF r (rnds 8 (ixor .u32 (b : Int) (wr .u32 x.toNat))) = _
    rw [e, ixor_nat b x.toNat h (by omega), rnds_nat 8 (xor_byte_lt x h), sumF_nat r (rndsN_lt 8 (xor_byte_lt x h))]
    rfl
theorem xor_cancel {a b c : Nat} (h : a ^^^ c = b ^^^ c) : a = b := by
  have := congrArg (· ^^^ c) h
  simp only [Nat.xor_assoc, Nat.xor_self, Nat.xor_zero] at this
  exact this
theorem testBit_high {n : Nat} (h : n < 2147483648) : n.testBit 31 = false := Nat.testBit_lt_two_pow (by omega)
theorem rndN_inj {a b : Nat} (ha : a < 4294967296) (hb : b < 4294967296) (h : rndN a = rndN b) : a = b := by
  have top : ∀ n : Nat, n < 4294967296 → (rndN n).testBit 31 = decide (n % 2 = 1) := by
    intro n hn
    unfold rndN
    split
    · rename_i hp
      rw [Nat.testBit_xor, testBit_high (by omega), decide_eq_true hp]
      decide
    · rename_i hp
      rw [testBit_high (by omega), decide_eq_false hp]
  have h1 := top a ha
  have h2 := top b hb
  rw [h, h2] at h1
  have hp : a % 2 = 1 ↔ b % 2 = 1 := by
    have := decide_eq_decide.1 h1
    exact this.symm
  unfold rndN at h
  by_cases ho : a % 2 = 1
  · rw [if_pos ho, if_pos (hp.1 ho)] at h
    have := xor_cancel h
    have := hp.1 ho
    omega
  · rw [if_neg ho, if_neg (fun q => ho (hp.2 q))] at h
    have : ¬ b % 2 = 1 := fun q => ho (hp.2 q)
    omega
theorem rndsN_inj : ∀ (k : Nat) {a b : Nat}, a < 4294967296 → b < 4294967296 → rndsN k a = rndsN k b → a = b
  | 0, _, _, _, _, h => h
  | k + 1, _, _, ha, hb, h => rndN_inj ha hb (rndsN_inj k (rndN_lt ha) (rndN_lt hb) h)
theorem sumN_inj : ∀ (l : List UInt8) {a b : Nat}, a < 4294967296 → b < 4294967296 → sumN l a = sumN l b → a = b
  | [], _, _, _, _, h => h
  | x :: r, a, b, ha, hb, h => by
    have h1 := sumN_inj r (rndsN_lt 8 (xor_byte_lt x ha)) (rndsN_lt 8 (xor_byte_lt x hb)) h
    have h2 := rndsN_inj 8 (xor_byte_lt x ha) (xor_byte_lt x hb) h1
    exact xor_cancel h2
theorem sumN_app : ∀ (l m : List UInt8) (b : Nat), sumN (l ++ m) b = sumN m (sumN l b)
  | [], _, _ => rfl
  | x :: r, m, b => sumN_app r m _
/-- One byte turned: another sum. -/
theorem sumN_turn (p r : List UInt8) {x y : UInt8} (hxy : x ≠ y) {b : Nat} (hb : b < 4294967296) : sumN (p ++ x :: r) b ≠ sumN (p ++ y :: r) b := by
  intro h
  rw [sumN_app, sumN_app] at h
  have hp := sumN_lt p hb
  have h1 := sumN_inj r (rndsN_lt 8 (xor_byte_lt x hp)) (rndsN_lt 8 (xor_byte_lt y hp)) h
  have h2 := rndsN_inj 8 (xor_byte_lt x hp) (xor_byte_lt y hp) h1
  have h3 : x.toNat = y.toNat := by
    rw [Nat.xor_comm, Nat.xor_comm _ y.toNat] at h2
    exact xor_cancel h2
  exact hxy (UInt8.toNat_inj.1 h3)
theorem sumOf_nat (s : ByteArray) : sumOf s = ((sumN (bl s) 4294967295 : Nat) : Int) := sumF_nat (bl s) (b := 4294967295) (by omega)
theorem four_inj {a b : Int} (ha : U32 a) (hb : U32 b) (h : four a = four b) : a = b := by
  unfold U32 at ha hb
  have h1 := congrArg bl h
  unfold four at h1
  rw [bl_bstr, bl_bstr] at h1
  simp only [List.map_cons, List.map_nil, List.cons.injEq, and_true] at h1
  obtain ⟨e1, e2, e3, e4⟩ := h1
  have f : ∀ x y : Int, UInt8.ofNat (wr .u8 x).toNat = UInt8.ofNat (wr .u8 y).toNat → x % 256 = y % 256 := by
    intro x y hh
    have h2 := congrArg UInt8.toNat hh
    rw [UInt8.toNat_ofNat', UInt8.toNat_ofNat', wr8, wr8] at h2
    omega
  have e1 := f _ _ e1
  have e2 := f _ _ e2
  have e3 := f _ _ e3
  have e4 := f _ _ e4
  omega
theorem set_split {α : Type} {l : List α} {i : Nat} (h : i < l.length) (y : α) : l = l.take i ++ l[i] :: l.drop (i + 1) ∧ l.set i y = l.take i ++ y :: l.drop (i + 1) := by
  constructor
  · rw [← List.drop_eq_getElem_cons h, List.take_append_drop]
  · exact (List.set_eq_take_append_cons_drop).trans (by rw [if_pos h])
/-- A sealed text with one byte turned is none. -/
theorem unseal_turned {s t : ByteArray} {i : Nat} {y : UInt8} (hs : s.size ≤ 20000) (hi : i < s.size + 4) (ht : bl t = (bl (s ++ four (sumOf s))).set i y) (hy : (bl (s ++ four (sumOf s)))[i]? ≠ some y) : (unsealT t).2 = false := by
  have hsz : t.size = s.size + 4 := by
    rw [size_bl, ht, List.length_set, ← size_bl, size_append, four_size]
  unfold unsealT
  rw [if_neg (by omega)]
  rw [if_neg]
  intro hc
  obtain ⟨_, hc⟩ := hc
  have hfs := front_size t
  have hl := congrArg bl hc
  rw [ht, bl_append, bl_append] at hl
  by_cases hin : i < s.size
  · rw [List.set_append_left _ _ (by rw [← size_bl]; exact hin)] at hl
    obtain ⟨h1, h2⟩ := List.append_inj hl (by rw [List.length_set, ← size_bl, ← size_bl]; omega)
    have h3 := ba_ext h2
    have h4 := four_inj (u32_sumOf _) (u32_sumOf _) h3
    rw [sumOf_nat, sumOf_nat, h1] at h4
    have h5 : sumN ((bl s).set i y) 4294967295 = sumN (bl s) 4294967295 := Int.ofNat_inj.1 h4
    have hlt : i < (bl s).length := by rw [← size_bl]; exact hin
    obtain ⟨g1, g2⟩ := set_split hlt y
    rw [g2] at h5
    have h6 : (bl s)[i] ≠ y := by
      intro e
      apply hy
      rw [bl_append, List.getElem?_append_left hlt, List.getElem?_eq_getElem hlt, e]
    have g3 : sumN (bl s) 4294967295 = sumN ((bl s).take i ++ (bl s)[i] :: (bl s).drop (i + 1)) 4294967295 := by rw [← g1]
    rw [g3] at h5
    exact sumN_turn _ _ (fun e => h6 e.symm) (by omega) h5
  · rw [List.set_append_right _ _ (by rw [← size_bl]; omega)] at hl
    obtain ⟨h1, h2⟩ := List.append_inj hl (by rw [← size_bl, ← size_bl]; omega)
    have h3 := ba_ext h1
    rw [h3] at h2
    have hlt : i - (bl s).length < (bl (four (sumOf s))).length := by rw [← size_bl, ← size_bl, four_size]; omega
    have h4 := congrArg (fun l => l[i - (bl s).length]?) h2
    simp only [List.getElem?_set_self hlt] at h4
    apply hy
    rw [bl_append, List.getElem?_append_right (by rw [← size_bl]; omega)]
    exact h4
end Go.Sx
