/- Texts with one byte turned. -/
import Derived.Test.YtkcfdkfdmglamaaSyP15
set_option linter.unusedVariables false
set_option linter.unusedSimpArgs false
namespace Go.Sx
open Go.RowKit (wrap64)
theorem ixor8 (a b : Nat) (ha : a < 256) (hb : b < 256) : ixor .u8 (a : Int) (b : Int) = ((a ^^^ b : Nat) : Int) := by
  have e : ixor .u8 (a : Int) (b : Int) = IntKind.u8.wrap (((BitVec.ofInt 8 (a : Int) ^^^ BitVec.ofInt 8 (b : Int)).toNat : Nat) : Int) := rfl
  have h1 : (BitVec.ofInt 8 (a : Int)).toNat = a := by rw [BitVec.ofInt_natCast, BitVec.toNat_ofNat]; omega
  have h2 : (BitVec.ofInt 8 (b : Int)).toNat = b := by rw [BitVec.ofInt_natCast, BitVec.toNat_ofNat]; omega
  have hl : a ^^^ b < 2 ^ 8 := Nat.xor_lt_two_pow ha hb
  rw [e, BitVec.toNat_xor, h1, h2]
  simp [IntKind.wrap, IntKind.signed, IntKind.bits]
  omega
theorem byl_bl (s : ByteArray) : byl s = (bl s).map fun b => (b.toNat : Int) := rfl
theorem turn_val {s : ByteArray} {i : Nat} (hi : i < s.size) {v : Nat} (hv0 : 0 < v) (hv : v < 256) : ∃ y, bl (bstr ((byl s).set i (ixor .u8 ((byl s).getD i 0) (v : Int)))) = (bl s).set i y ∧ (bl s)[i]? ≠ some y := by
  have hl : i < (bl s).length := by rw [bl_len]; exact hi
  have hx := UInt8.toNat_lt (bl s)[i]
  have hlt : (bl s)[i].toNat ^^^ v < 256 := Nat.xor_lt_two_pow (n := 8) hx hv
  refine ⟨UInt8.ofNat ((bl s)[i].toNat ^^^ v), ?_, ?_⟩
  · have e1 : (byl s).getD i 0 = (((bl s)[i].toNat : Nat) : Int) := by
      rw [byl_bl, List.getD_eq_getElem?_getD, List.getElem?_map, List.getElem?_eq_getElem hl]; rfl
    rw [e1, ixor8 _ _ hx hv, bl_bstr, byl_bl, List.map_set, List.map_map, Int.toNat_natCast]
    congr 1
    have e2 : ((fun n : Int => UInt8.ofNat n.toNat) ∘ fun b : UInt8 => ((b.toNat : Nat) : Int)) = id := by
      funext b
      show UInt8.ofNat ((b.toNat : Nat) : Int).toNat = b
      rw [Int.toNat_natCast, UInt8.ofNat_toNat]
    rw [e2, List.map_id]
  · rw [List.getElem?_eq_getElem hl]
    intro h
    have h := Option.some.inj h
    have h2 := congrArg UInt8.toNat h
    rw [UInt8.toNat_ofNat', Nat.mod_eq_of_lt hlt] at h2
    have h3 : 0 ^^^ (bl s)[i].toNat = v ^^^ (bl s)[i].toNat := by
      rw [Nat.zero_xor, Nat.xor_comm v, ← h2]
    have := xor_cancel h3
    omega
theorem tmod_at {x : Int} (h : 0 ≤ x) (n : Nat) : Int.tmod x (n : Int) = ((x.toNat % n : Nat) : Int) := by
  obtain ⟨m, rfl⟩ := Int.eq_ofNat_of_zero_le h
  rw [Int.tmod_eq_emod_of_nonneg (by omega), Int.toNat_natCast]; rfl
theorem turn_wr {x : Int} (h : 0 ≤ x) : wr .u8 (wrap64 (1 + Int.tmod x 255)) = ((1 + x.toNat % 255 : Nat) : Int) := by
  have e : Int.tmod x 255 = ((x.toNat % 255 : Nat) : Int) := tmod_at h 255
  have hb := Nat.mod_lt x.toNat (show 0 < 255 by decide)
  rw [e]
  generalize x.toNat % 255 = z at hb ⊢
  rw [w64 (by omega) (by omega)]
  show (1 + (z : Int)) % 256 = _
  omega
end Go.Sx
