/- Functions of the program as functions of Lean, and that the program keeps to them. -/
import Derived.Test.YtklcjpidbpplkaaSxP1
set_option maxRecDepth 100000
set_option linter.unusedVariables false
set_option linter.unusedSimpArgs false
namespace Go.Proofs
end Go.Proofs
namespace Go.Sx.T
open Go Go.Sx Go.Proofs Go.RowKit
/- impl_RoomOf -/
def con_impl_RoomOf (f : Nat → (List Int × Int) → Option (Int)) : Con := ⟨[.agg [.sl (.int .i64), .int .i64]], 1, [.v false [.int .i64]], f⟩
def impl_RoomOf_L3 : Nat → Int × Int × Int × List Int × Unit → Option (Int)
  | 0, _ => none
  | k + 1, (b0, b1, b2, b3, ()) =>
    if b2 < b1 then
     if 0 ≤ b2 then
      if b2 < ((List.length b3 : Nat) : Int) then impl_RoomOf_L3 k ((wrap64 (b0 - (List.getD b3 (Int.toNat b2) 0))), b1, (wrap64 (b2 + 1)), b3, ()) else none
     else
      none
    else
     some b0
def impl_RoomOf_ (k : Nat) : (List Int × Int) → Option (Int)
  | (a0, a1) =>
  impl_RoomOf_L3 k (30, ((List.length a0 : Nat) : Int), 0, a0, ())
noncomputable def g_impl_RoomOf : (List Int × Int) → Option (Int) := evG (impl_RoomOf_ )
theorem e_impl_RoomOf : ∀ x b, g_impl_RoomOf x = some b → ∃ k, impl_RoomOf_  k x = some b := evG_e _
/- impl_within -/
def con_impl_within (f : Nat → Int × Int × Int → Option (Bool)) : Con := ⟨[.c (.int .i64), .c (.int .i64), .c (.int .i64)], 1, [.v false [.bool]], f⟩
def impl_within_ (k : Nat) : Int × Int × Int → Option (Bool)
  | (a0, a1, a2) =>
  if a1 ≤ a0 then
   some (decide (a0 ≤ a2))
  else
   some false
noncomputable def g_impl_within : Int × Int × Int → Option (Bool) := impl_within_  0
theorem e_impl_within : ∀ x b, g_impl_within x = some b → ∃ k, impl_within_  k x = some b := fun x b h => ⟨0, h⟩
/- impl_SenseOk -/
def con_impl_SenseOk (f : Nat → Int → Option (Bool)) : Con := ⟨[.c (.int .i64)], 1, [.v false [.bool]], f⟩
def impl_SenseOk_ (impl_within : Nat → Int × Int × Int → Option (Bool)) (k : Nat) : Int → Option (Bool)
  | a0 =>
  (impl_within k (a0, (0, 15))).bind fun v0 =>
  some v0
noncomputable def g_impl_SenseOk : Int → Option (Bool) := impl_SenseOk_ (fun _ => g_impl_within) 0
theorem e_impl_SenseOk : ∀ x b, g_impl_SenseOk x = some b → ∃ k, impl_SenseOk_ (fun _ => g_impl_within) k x = some b := fun x b h => ⟨0, h⟩
/- impl_GuardOk -/
def con_impl_GuardOk (f : Nat → (List Int × Int) → Option (Bool)) : Con := ⟨[.agg [.sl (.int .i64), .int .i64]], 1, [.v false [.bool]], f⟩
def impl_GuardOk_L2 (impl_RoomOf : Nat → (List Int × Int) → Option (Int)) (impl_SenseOk : Nat → Int → Option (Bool)) (impl_within : Nat → Int × Int × Int → Option (Bool)) : Nat → Int × Int × List Int × Int × Unit → Option (Bool)
  | 0, _ => none
  | k + 1, (b0, b1, b2, b3, ()) =>
    if b1 < b0 then
     if 0 ≤ b1 then
      if b1 < ((List.length b2 : Nat) : Int) then (impl_within k ((List.getD b2 (Int.toNat b1) 0), (0, 30))).bind fun v0 =>
       if v0 = true then
        impl_GuardOk_L2 impl_RoomOf impl_SenseOk impl_within k (b0, (wrap64 (b1 + 1)), b2, b3, ())
       else
        some false else none
     else
      none
    else
     if ((List.length b2 : Nat) : Int) ≤ 9 then
      (impl_RoomOf k (b2, b3)).bind fun v1 =>
      if 0 ≤ v1 then
       (impl_SenseOk k b3).bind fun v2 =>
       some v2
      else
       some false
     else
      some false
def impl_GuardOk_ (impl_RoomOf : Nat → (List Int × Int) → Option (Int)) (impl_SenseOk : Nat → Int → Option (Bool)) (impl_within : Nat → Int × Int × Int → Option (Bool)) (k : Nat) : (List Int × Int) → Option (Bool)
  | (a0, a1) =>
  impl_GuardOk_L2 impl_RoomOf impl_SenseOk impl_within k (((List.length a0 : Nat) : Int), 0, a0, a1, ())
noncomputable def g_impl_GuardOk : (List Int × Int) → Option (Bool) := evG (impl_GuardOk_ (fun _ => g_impl_RoomOf) (fun _ => g_impl_SenseOk) (fun _ => g_impl_within))
theorem e_impl_GuardOk : ∀ x b, g_impl_GuardOk x = some b → ∃ k, impl_GuardOk_ (fun _ => g_impl_RoomOf) (fun _ => g_impl_SenseOk) (fun _ => g_impl_within) k x = some b := evG_e _
/- impl_copyInts -/
def con_impl_copyInts (f : Nat → List Int → Option (List Int)) : Con := ⟨[.c (.sl (.int .i64))], 1, [.v false [.own (.int .i64) 3]], f⟩
def impl_copyInts_ (k : Nat) : List Int → Option (List Int)
  | a0 =>
  if (((List.length ([] : List Int) + List.length a0 : Nat) : Int) * ((8 : Nat) : Int)) ≤ 140737488355328 then some (([] : List Int) ++ a0) else none
noncomputable def g_impl_copyInts : List Int → Option (List Int) := impl_copyInts_  0
theorem e_impl_copyInts : ∀ x b, g_impl_copyInts x = some b → ∃ k, impl_copyInts_  k x = some b := fun x b h => ⟨0, h⟩
/- impl_copyGuard -/
def con_impl_copyGuard (f : Nat → (List Int × Int) → Option ((List Int × Int))) : Con := ⟨[.agg [.sl (.int .i64), .int .i64]], 1, [.v true [.own (.int .i64) 3, .int .i64]], f⟩
def impl_copyGuard_ (impl_copyInts : Nat → List Int → Option (List Int)) (k : Nat) : (List Int × Int) → Option ((List Int × Int))
  | (a0, a1) =>
  (impl_copyInts k a0).bind fun v0 =>
  some (v0, a1)
noncomputable def g_impl_copyGuard : (List Int × Int) → Option ((List Int × Int)) := impl_copyGuard_ (fun _ => g_impl_copyInts) 0
theorem e_impl_copyGuard : ∀ x b, g_impl_copyGuard x = some b → ∃ k, impl_copyGuard_ (fun _ => g_impl_copyInts) k x = some b := fun x b h => ⟨0, h⟩
/- impl_Allow -/
def con_impl_Allow (f : Nat → (List Int × Int) × Int → Option (Int)) : Con := ⟨[.agg [.sl (.int .i64), .int .i64], .c (.int .i64)], 1, [.v false [.int .i64]], f⟩
def impl_Allow_ (impl_GuardOk : Nat → (List Int × Int) → Option (Bool)) (impl_RoomOf : Nat → (List Int × Int) → Option (Int)) (k : Nat) : (List Int × Int) × Int → Option (Int)
  | ((a0, a1), a2) =>
  (impl_GuardOk k (a0, a1)).bind fun v0 =>
  if v0 = true then
   if a1 = 0 then
    (impl_RoomOf k (a0, a1)).bind fun v1 =>
    some (mx (mn a2 v1) 0)
   else
    some 0
  else
   some 0
noncomputable def g_impl_Allow : (List Int × Int) × Int → Option (Int) := impl_Allow_ (fun _ => g_impl_GuardOk) (fun _ => g_impl_RoomOf) 0
theorem e_impl_Allow : ∀ x b, g_impl_Allow x = some b → ∃ k, impl_Allow_ (fun _ => g_impl_GuardOk) (fun _ => g_impl_RoomOf) k x = some b := fun x b h => ⟨0, h⟩
/- impl_Feel -/
def con_impl_Feel (f : Nat → (List Int × Int) × Int × Bool → Option ((List Int × Int))) : Con := ⟨[.agg [.sl (.int .i64), .int .i64], .c (.int .i64), .c (.bool)], 1, [.v true [.own (.int .i64) 3, .int .i64]], f⟩
def impl_Feel_ (impl_GuardOk : Nat → (List Int × Int) → Option (Bool)) (impl_SenseOk : Nat → Int → Option (Bool)) (impl_copyGuard : Nat → (List Int × Int) → Option ((List Int × Int))) (k : Nat) : (List Int × Int) × Int × Bool → Option ((List Int × Int))
  | ((a0, a1), a2, a3) =>
  (impl_copyGuard k (a0, a1)).bind fun v0 =>
  (impl_GuardOk k (a0, a1)).bind fun v1 =>
  if v1 = true then
   (impl_SenseOk k a2).bind fun v2 =>
   if v2 = true then
    if a3 = true then
     some (v0.1, a2)
    else
     some (v0.1, (ior .i64 v0.2 a2))
   else
    some v0
  else
   some v0
noncomputable def g_impl_Feel : (List Int × Int) × Int × Bool → Option ((List Int × Int)) := impl_Feel_ (fun _ => g_impl_GuardOk) (fun _ => g_impl_SenseOk) (fun _ => g_impl_copyGuard) 0
theorem e_impl_Feel : ∀ x b, g_impl_Feel x = some b → ∃ k, impl_Feel_ (fun _ => g_impl_GuardOk) (fun _ => g_impl_SenseOk) (fun _ => g_impl_copyGuard) k x = some b := fun x b h => ⟨0, h⟩
/- spec_l01Byte -/
def con_spec_l01Byte (f : Nat → (List Int × Int × Int) → Option (Int × (Unit × Int × Int))) : Con := ⟨[.ptr [.sl (.int .u8), .int .i64, .int .i64] 114], 1, [.v false [.int .i64], .box [.keep, .int .i64, .int .i64] 114], f⟩
def spec_l01Byte_ (k : Nat) : (List Int × Int × Int) → Option (Int × (Unit × Int × Int))
  | (a0, a1, a2) =>
  if 0 ≤ 33 then
   if 0 ≤ 45 then
    if a1 < ((List.length a0 : Nat) : Int) then
     if 0 ≤ a1 then
      if a1 < ((List.length a0 : Nat) : Int) then some ((iand .i64 (wrap64 ((iand .i64 (ixor .i64 (Int.fdiv (wrap64 ((wrap64 (a2 * 6364136223846793005)) + 1442695040888963407)) (2 ^ (min (Int.toNat 33) (IntKind.bits .i64)))) (Int.fdiv (wrap64 ((wrap64 (a2 * 6364136223846793005)) + 1442695040888963407)) (2 ^ (min (Int.toNat 45) (IntKind.bits .i64))))) 255) + (wrap64 (List.getD a0 (Int.toNat a1) 0)))) 255), ((), ((wrap64 (a1 + 1)), (wrap64 ((wrap64 (a2 * 6364136223846793005)) + 1442695040888963407))))) else none
     else
      none
    else
     some ((iand .i64 (ixor .i64 (Int.fdiv (wrap64 ((wrap64 (a2 * 6364136223846793005)) + 1442695040888963407)) (2 ^ (min (Int.toNat 33) (IntKind.bits .i64)))) (Int.fdiv (wrap64 ((wrap64 (a2 * 6364136223846793005)) + 1442695040888963407)) (2 ^ (min (Int.toNat 45) (IntKind.bits .i64))))) 255), ((), (a1, (wrap64 ((wrap64 (a2 * 6364136223846793005)) + 1442695040888963407)))))
   else
    none
  else
   none
noncomputable def g_spec_l01Byte : (List Int × Int × Int) → Option (Int × (Unit × Int × Int)) := spec_l01Byte_  0
theorem e_spec_l01Byte : ∀ x b, g_spec_l01Byte x = some b → ∃ k, spec_l01Byte_  k x = some b := fun x b h => ⟨0, h⟩
/- spec_l01Below -/
def con_spec_l01Below (f : Nat → (List Int × Int × Int) × Int → Option (Int × (Unit × Int × Int))) : Con := ⟨[.ptr [.sl (.int .u8), .int .i64, .int .i64] 114, .c (.int .i64)], 1, [.v false [.int .i64], .box [.keep, .int .i64, .int .i64] 114], f⟩
def spec_l01Below_ (spec_l01Byte : Nat → (List Int × Int × Int) → Option (Int × (Unit × Int × Int))) (k : Nat) : (List Int × Int × Int) × Int → Option (Int × (Unit × Int × Int))
  | ((a0, a1, a2), a3) =>
  if a3 ≤ 0 then
   some (0, ((), (a1, a2)))
  else
   if a3 ≤ 256 then
    (spec_l01Byte k (a0, (a1, a2))).bind fun v0 =>
    if a3 = 0 then
     none
    else
     some ((Int.tmod v0.1 a3), ((), v0.2.2))
   else
    (spec_l01Byte k (a0, (a1, a2))).bind fun v1 =>
    (spec_l01Byte k (a0, v1.2.2)).bind fun v2 =>
    (spec_l01Byte k (a0, v2.2.2)).bind fun v3 =>
    (spec_l01Byte k (a0, v3.2.2)).bind fun v4 =>
    if a3 = 0 then
     none
    else
     some ((Int.tmod (wrap64 ((wrap64 ((wrap64 ((wrap64 (v1.1 * 16777216)) + (wrap64 (v2.1 * 65536)))) + (wrap64 (v3.1 * 256)))) + v4.1)) a3), ((), v4.2.2))
noncomputable def g_spec_l01Below : (List Int × Int × Int) × Int → Option (Int × (Unit × Int × Int)) := spec_l01Below_ (fun _ => g_spec_l01Byte) 0
theorem e_spec_l01Below : ∀ x b, g_spec_l01Below x = some b → ∃ k, spec_l01Below_ (fun _ => g_spec_l01Byte) k x = some b := fun x b h => ⟨0, h⟩
/- spec_l01Once -/
def con_spec_l01Once (f : Nat → (List Int × Int × Int) × Int → Option (Bool × (Unit × Int × Int))) : Con := ⟨[.ptr [.sl (.int .u8), .int .i64, .int .i64] 114, .c (.int .i64)], 1, [.v false [.bool], .box [.keep, .int .i64, .int .i64] 114], f⟩
def spec_l01Once_ (spec_l01Below : Nat → (List Int × Int × Int) × Int → Option (Int × (Unit × Int × Int))) (k : Nat) : (List Int × Int × Int) × Int → Option (Bool × (Unit × Int × Int))
  | ((a0, a1, a2), a3) =>
  (spec_l01Below k ((a0, (a1, a2)), a3)).bind fun v0 =>
  some ((decide (v0.1 = 0)), ((), v0.2.2))
noncomputable def g_spec_l01Once : (List Int × Int × Int) × Int → Option (Bool × (Unit × Int × Int)) := spec_l01Once_ (fun _ => g_spec_l01Below) 0
theorem e_spec_l01Once : ∀ x b, g_spec_l01Once x = some b → ∃ k, spec_l01Once_ (fun _ => g_spec_l01Below) k x = some b := fun x b h => ⟨0, h⟩
/- spec_l01In -/
def con_spec_l01In (f : Nat → Int × Int × Int → Option (Bool)) : Con := ⟨[.c (.int .i64), .c (.int .i64), .c (.int .i64)], 1, [.v false [.bool]], f⟩
def spec_l01In_ (k : Nat) : Int × Int × Int → Option (Bool)
  | (a0, a1, a2) =>
  if a1 ≤ a0 then
   some (decide (a0 ≤ a2))
  else
   some false
noncomputable def g_spec_l01In : Int × Int × Int → Option (Bool) := spec_l01In_  0
theorem e_spec_l01In : ∀ x b, g_spec_l01In x = some b → ∃ k, spec_l01In_  k x = some b := fun x b h => ⟨0, h⟩
/- spec_l01New -/
def con_spec_l01New (f : Nat → List Int → Option ((Unit × Int × Int))) : Con := ⟨[.c (.sl (.int .u8))], 1, [.box [.al 0 0, .int .i64, .int .i64] 114], f⟩
def spec_l01New_L3 : Nat → Int × Int × List Int × Unit → Option ((Unit × Int × Int))
  | 0, _ => none
  | k + 1, (b0, b1, b2, ()) =>
    if b1 < ((List.length b2 : Nat) : Int) then
     if b1 < 4000 then
      if 0 ≤ b1 then
       if b1 < ((List.length b2 : Nat) : Int) then spec_l01New_L3 k ((iand .i64 (wrap64 ((wrap64 ((wrap64 (b0 * 131)) + (wrap64 (List.getD b2 (Int.toNat b1) 0)))) + 7)) 1073741823), (wrap64 (b1 + 1)), b2, ()) else none
      else
       none
     else
      some ((), (0, b0))
    else
     some ((), (0, b0))
def spec_l01New_ (k : Nat) : List Int → Option ((Unit × Int × Int))
  | a0 =>
  spec_l01New_L3 k ((wrap64 (37101 + ((List.length a0 : Nat) : Int))), 0, a0, ())
noncomputable def g_spec_l01New : List Int → Option ((Unit × Int × Int)) := evG (spec_l01New_ )
theorem e_spec_l01New : ∀ x b, g_spec_l01New x = some b → ∃ k, spec_l01New_  k x = some b := evG_e _
/- laws_big -/
def con_laws_big (f : Nat → List Int → Option (Bool)) : Con := ⟨[.c (.sl (.int .u8))], 1, [.v false [.bool]], f⟩
def laws_big_ (k : Nat) : List Int → Option (Bool)
  | a0 =>
  some (decide (1048576 < ((List.length a0 : Nat) : Int)))
noncomputable def g_laws_big : List Int → Option (Bool) := laws_big_  0
theorem e_laws_big : ∀ x b, g_laws_big x = some b → ∃ k, laws_big_  k x = some b := fun x b h => ⟨0, h⟩
/- spec_l15Less -/
def con_spec_l15Less (f : Nat → Int × Int → Option (Int)) : Con := ⟨[.c (.int .i64), .c (.int .i64)], 1, [.v false [.int .i64]], f⟩
def spec_l15Less_ (k : Nat) : Int × Int → Option (Int)
  | (a0, a1) =>
  if a0 < a1 then
   some a0
  else
   some a1
noncomputable def g_spec_l15Less : Int × Int → Option (Int) := spec_l15Less_  0
theorem e_spec_l15Less : ∀ x b, g_spec_l15Less x = some b → ∃ k, spec_l15Less_  k x = some b := fun x b h => ⟨0, h⟩
/- spec_l16Sum -/
def con_spec_l16Sum (f : Nat → List Int → Option (Int)) : Con := ⟨[.c (.sl (.int .i64))], 1, [.v false [.int .i64]], f⟩
def spec_l16Sum_L3 : Nat → Int × Int × List Int × Unit → Option (Int)
  | 0, _ => none
  | k + 1, (b0, b1, b2, ()) =>
    if b1 < ((List.length b2 : Nat) : Int) then
     if 0 ≤ b1 then
      if b1 < ((List.length b2 : Nat) : Int) then spec_l16Sum_L3 k ((wrap64 (b0 + (List.getD b2 (Int.toNat b1) 0))), (wrap64 (b1 + 1)), b2, ()) else none
     else
      none
    else
     some b0
def spec_l16Sum_ (k : Nat) : List Int → Option (Int)
  | a0 =>
  spec_l16Sum_L3 k (0, 0, a0, ())
noncomputable def g_spec_l16Sum : List Int → Option (Int) := evG (spec_l16Sum_ )
theorem e_spec_l16Sum : ∀ x b, g_spec_l16Sum x = some b → ∃ k, spec_l16Sum_  k x = some b := evG_e _
/- spec_RoomOf -/
def con_spec_RoomOf (f : Nat → (List Int × Int) → Option (Int)) : Con := ⟨[.agg [.sl (.int .i64), .int .i64]], 1, [.v false [.int .i64]], f⟩
def spec_RoomOf_ (spec_l16Sum : Nat → List Int → Option (Int)) (k : Nat) : (List Int × Int) → Option (Int)
  | (a0, a1) =>
  (spec_l16Sum k a0).bind fun v0 =>
  some (wrap64 (30 - v0))
noncomputable def g_spec_RoomOf : (List Int × Int) → Option (Int) := spec_RoomOf_ (fun _ => g_spec_l16Sum) 0
theorem e_spec_RoomOf : ∀ x b, g_spec_RoomOf x = some b → ∃ k, spec_RoomOf_ (fun _ => g_spec_l16Sum) k x = some b := fun x b h => ⟨0, h⟩
/- spec_SenseOk -/
def con_spec_SenseOk (f : Nat → Int → Option (Bool)) : Con := ⟨[.c (.int .i64)], 1, [.v false [.bool]], f⟩
def spec_SenseOk_ (spec_l01In : Nat → Int × Int × Int → Option (Bool)) (k : Nat) : Int → Option (Bool)
  | a0 =>
  (spec_l01In k (a0, (0, 15))).bind fun v0 =>
  some v0
noncomputable def g_spec_SenseOk : Int → Option (Bool) := spec_SenseOk_ (fun _ => g_spec_l01In) 0
theorem e_spec_SenseOk : ∀ x b, g_spec_SenseOk x = some b → ∃ k, spec_SenseOk_ (fun _ => g_spec_l01In) k x = some b := fun x b h => ⟨0, h⟩
/- spec_GuardOk -/
def con_spec_GuardOk (f : Nat → (List Int × Int) → Option (Bool)) : Con := ⟨[.agg [.sl (.int .i64), .int .i64]], 1, [.v false [.bool]], f⟩
def spec_GuardOk_L4 (spec_SenseOk : Nat → Int → Option (Bool)) (spec_l01In : Nat → Int × Int × Int → Option (Bool)) (spec_l16Sum : Nat → List Int → Option (Int)) : Nat → Int × List Int × Int × Unit → Option (Bool)
  | 0, _ => none
  | k + 1, (b0, b1, b2, ()) =>
    if b0 < ((List.length b1 : Nat) : Int) then
     if 0 ≤ b0 then
      if b0 < ((List.length b1 : Nat) : Int) then (spec_l01In k ((List.getD b1 (Int.toNat b0) 0), (0, 30))).bind fun v0 =>
       if v0 = true then
        spec_GuardOk_L4 spec_SenseOk spec_l01In spec_l16Sum k ((wrap64 (b0 + 1)), b1, b2, ())
       else
        some false else none
     else
      none
    else
     (spec_l16Sum k b1).bind fun v1 =>
     some (decide (v1 ≤ 30))
def spec_GuardOk_ (spec_SenseOk : Nat → Int → Option (Bool)) (spec_l01In : Nat → Int × Int × Int → Option (Bool)) (spec_l16Sum : Nat → List Int → Option (Int)) (k : Nat) : (List Int × Int) → Option (Bool)
  | (a0, a1) =>
  if 9 < ((List.length a0 : Nat) : Int) then
   some false
  else
   (spec_SenseOk k a1).bind fun v0 =>
   if v0 = true then
    spec_GuardOk_L4 spec_SenseOk spec_l01In spec_l16Sum k (0, a0, a1, ())
   else
    some false
noncomputable def g_spec_GuardOk : (List Int × Int) → Option (Bool) := evG (spec_GuardOk_ (fun _ => g_spec_SenseOk) (fun _ => g_spec_l01In) (fun _ => g_spec_l16Sum))
theorem e_spec_GuardOk : ∀ x b, g_spec_GuardOk x = some b → ∃ k, spec_GuardOk_ (fun _ => g_spec_SenseOk) (fun _ => g_spec_l01In) (fun _ => g_spec_l16Sum) k x = some b := evG_e _
/- spec_DrawPlaces -/
def con_spec_DrawPlaces (f : Nat → List Int → Option (List Int)) : Con := ⟨[.c (.sl (.int .u8))], 1, [.v false [.own (.int .i64) 3]], f⟩
def spec_DrawPlaces_L5 (spec_l01Below : Nat → (List Int × Int × Int) × Int → Option (Int × (Unit × Int × Int))) (spec_l01Byte : Nat → (List Int × Int × Int) → Option (Int × (Unit × Int × Int))) (spec_l01New : Nat → List Int → Option ((Unit × Int × Int))) : Nat → Int × List Int × Int × Int × List Int × Unit → Option (List Int)
  | 0, _ => none
  | k + 1, (b0, b1, b2, b3, b4, ()) =>
    if b0 < 12 then
     (spec_l01Below k ((b1, (b2, b3)), 10000)).bind fun v0 =>
     if (((List.length b4 + List.length [v0.1] : Nat) : Int) * ((8 : Nat) : Int)) ≤ 140737488355328 then spec_DrawPlaces_L5 spec_l01Below spec_l01Byte spec_l01New k ((wrap64 (b0 + 1)), b1, v0.2.2.1, v0.2.2.2, (b4 ++ [v0.1]), ()) else none
    else
     some b4
def spec_DrawPlaces_ (spec_l01Below : Nat → (List Int × Int × Int) × Int → Option (Int × (Unit × Int × Int))) (spec_l01Byte : Nat → (List Int × Int × Int) → Option (Int × (Unit × Int × Int))) (spec_l01New : Nat → List Int → Option ((Unit × Int × Int))) (k : Nat) : List Int → Option (List Int)
  | a0 =>
  (spec_l01New k a0).bind fun v0 =>
  (spec_l01Byte k (a0, v0.2)).bind fun v1 =>
  spec_DrawPlaces_L5 spec_l01Below spec_l01Byte spec_l01New k (0, a0, v1.2.2.1, v1.2.2.2, ([] : List Int), ())
noncomputable def g_spec_DrawPlaces : List Int → Option (List Int) := evG (spec_DrawPlaces_ (fun _ => g_spec_l01Below) (fun _ => g_spec_l01Byte) (fun _ => g_spec_l01New))
theorem e_spec_DrawPlaces : ∀ x b, g_spec_DrawPlaces x = some b → ∃ k, spec_DrawPlaces_ (fun _ => g_spec_l01Below) (fun _ => g_spec_l01Byte) (fun _ => g_spec_l01New) k x = some b := evG_e _
/- spec_l16Copy -/
def con_spec_l16Copy (f : Nat → (List Int × Int) → Option ((List Int × Int))) : Con := ⟨[.agg [.sl (.int .i64), .int .i64]], 1, [.v true [.own (.int .i64) 3, .int .i64]], f⟩
def spec_l16Copy_ (k : Nat) : (List Int × Int) → Option ((List Int × Int))
  | (a0, a1) =>
  if (((List.length ([] : List Int) + List.length a0 : Nat) : Int) * ((8 : Nat) : Int)) ≤ 140737488355328 then some ((([] : List Int) ++ a0), a1) else none
noncomputable def g_spec_l16Copy : (List Int × Int) → Option ((List Int × Int)) := spec_l16Copy_  0
theorem e_spec_l16Copy : ∀ x b, g_spec_l16Copy x = some b → ∃ k, spec_l16Copy_  k x = some b := fun x b h => ⟨0, h⟩
/- spec_Pass -/
def con_spec_Pass (f : Nat → (List Int × Int) × Int → Option ((List Int × Int))) : Con := ⟨[.agg [.sl (.int .i64), .int .i64], .c (.int .i64)], 1, [.v true [.own (.int .i64) 3, .int .i64]], f⟩
def spec_Pass_ (spec_GuardOk : Nat → (List Int × Int) → Option (Bool)) (spec_RoomOf : Nat → (List Int × Int) → Option (Int)) (spec_l15Less : Nat → Int × Int → Option (Int)) (spec_l16Copy : Nat → (List Int × Int) → Option ((List Int × Int))) (k : Nat) : (List Int × Int) × Int → Option ((List Int × Int))
  | ((a0, a1), a2) =>
  (spec_l16Copy k (a0, a1)).bind fun v0 =>
  (spec_GuardOk k (a0, a1)).bind fun v1 =>
  if v1 = true then
   if a2 < 0 then
    (spec_RoomOf k (a0, a1)).bind fun v2 =>
    (spec_l15Less k (0, v2)).bind fun v3 =>
    if (((List.length [v3] + List.length a0 : Nat) : Int) * ((8 : Nat) : Int)) ≤ 140737488355328 then
     if 9 < ((List.length ([v3] ++ a0) : Nat) : Int) then
      if 0 ≤ 9 then
       if 9 ≤ ((List.length ([v3] ++ a0) : Nat) : Int) then
        if (((List.length ([] : List Int) + List.length (List.take (Int.toNat 9) ([v3] ++ a0)) : Nat) : Int) * ((8 : Nat) : Int)) ≤ 140737488355328 then some ((([] : List Int) ++ (List.take (Int.toNat 9) ([v3] ++ a0))), v0.2) else none
       else
        none
      else
       none
     else
      some (([v3] ++ a0), v0.2)
    else
     none
   else
    (spec_RoomOf k (a0, a1)).bind fun v4 =>
    (spec_l15Less k (a2, v4)).bind fun v5 =>
    if (((List.length [v5] + List.length a0 : Nat) : Int) * ((8 : Nat) : Int)) ≤ 140737488355328 then
     if 9 < ((List.length ([v5] ++ a0) : Nat) : Int) then
      if 0 ≤ 9 then
       if 9 ≤ ((List.length ([v5] ++ a0) : Nat) : Int) then
        if (((List.length ([] : List Int) + List.length (List.take (Int.toNat 9) ([v5] ++ a0)) : Nat) : Int) * ((8 : Nat) : Int)) ≤ 140737488355328 then some ((([] : List Int) ++ (List.take (Int.toNat 9) ([v5] ++ a0))), v0.2) else none
       else
        none
      else
       none
     else
      some (([v5] ++ a0), v0.2)
    else
     none
  else
   some v0
noncomputable def g_spec_Pass : (List Int × Int) × Int → Option ((List Int × Int)) := spec_Pass_ (fun _ => g_spec_GuardOk) (fun _ => g_spec_RoomOf) (fun _ => g_spec_l15Less) (fun _ => g_spec_l16Copy) 0
theorem e_spec_Pass : ∀ x b, g_spec_Pass x = some b → ∃ k, spec_Pass_ (fun _ => g_spec_GuardOk) (fun _ => g_spec_RoomOf) (fun _ => g_spec_l15Less) (fun _ => g_spec_l16Copy) k x = some b := fun x b h => ⟨0, h⟩
/- spec_l13Both -/
def con_spec_l13Both (f : Nat → Int × Int → Option (Int)) : Con := ⟨[.c (.int .i64), .c (.int .i64)], 1, [.v false [.int .i64]], f⟩
def spec_l13Both_L4 : Nat → Int × Int × Int × Int × Int × Unit → Option (Int)
  | 0, _ => none
  | k + 1, (b0, b1, b2, b3, b4, ()) =>
    if b4 < 4 then
     if b3 = 0 then
      none
     else
      if 2 = 0 then
       none
      else
       if (Int.tmod (wrap64 (Int.tdiv b0 b3)) 2) = 1 then
        spec_l13Both_L4 k (b0, b1, (wrap64 (b2 + b3)), (wrap64 (2 * b3)), (wrap64 (b4 + 1)), ())
       else
        if b3 = 0 then
         none
        else
         if 2 = 0 then
          none
         else
          if (Int.tmod (wrap64 (Int.tdiv b1 b3)) 2) = 1 then
           spec_l13Both_L4 k (b0, b1, (wrap64 (b2 + b3)), (wrap64 (2 * b3)), (wrap64 (b4 + 1)), ())
          else
           spec_l13Both_L4 k (b0, b1, b2, (wrap64 (2 * b3)), (wrap64 (b4 + 1)), ())
    else
     some b2
def spec_l13Both_ (k : Nat) : Int × Int → Option (Int)
  | (a0, a1) =>
  spec_l13Both_L4 k (a0, a1, 0, 1, 0, ())
noncomputable def g_spec_l13Both : Int × Int → Option (Int) := evG (spec_l13Both_ )
theorem e_spec_l13Both : ∀ x b, g_spec_l13Both x = some b → ∃ k, spec_l13Both_  k x = some b := evG_e _
/- spec_Feel -/
def con_spec_Feel (f : Nat → (List Int × Int) × Int × Bool → Option ((List Int × Int))) : Con := ⟨[.agg [.sl (.int .i64), .int .i64], .c (.int .i64), .c (.bool)], 1, [.v true [.own (.int .i64) 3, .int .i64]], f⟩
def spec_Feel_ (spec_GuardOk : Nat → (List Int × Int) → Option (Bool)) (spec_SenseOk : Nat → Int → Option (Bool)) (spec_l13Both : Nat → Int × Int → Option (Int)) (spec_l16Copy : Nat → (List Int × Int) → Option ((List Int × Int))) (k : Nat) : (List Int × Int) × Int × Bool → Option ((List Int × Int))
  | ((a0, a1), a2, a3) =>
  (spec_l16Copy k (a0, a1)).bind fun v0 =>
  (spec_GuardOk k (a0, a1)).bind fun v1 =>
  if v1 = true then
   (spec_SenseOk k a2).bind fun v2 =>
   if v2 = true then
    (spec_l13Both k (a1, a2)).bind fun v3 =>
    if a3 = true then
     some (v0.1, a2)
    else
     some (v0.1, v3)
   else
    some v0
  else
   some v0
noncomputable def g_spec_Feel : (List Int × Int) × Int × Bool → Option ((List Int × Int)) := spec_Feel_ (fun _ => g_spec_GuardOk) (fun _ => g_spec_SenseOk) (fun _ => g_spec_l13Both) (fun _ => g_spec_l16Copy) 0
theorem e_spec_Feel : ∀ x b, g_spec_Feel x = some b → ∃ k, spec_Feel_ (fun _ => g_spec_GuardOk) (fun _ => g_spec_SenseOk) (fun _ => g_spec_l13Both) (fun _ => g_spec_l16Copy) k x = some b := fun x b h => ⟨0, h⟩
/- laws_sameInts -/
def con_laws_sameInts (f : Nat → List Int × List Int → Option (Bool)) : Con := ⟨[.c (.sl (.int .i64)), .c (.sl (.int .i64))], 1, [.v false [.bool]], f⟩
def laws_sameInts_L4 : Nat → Int × List Int × List Int × Unit → Option (Bool)
  | 0, _ => none
  | k + 1, (b0, b1, b2, ()) =>
    if b0 < ((List.length b1 : Nat) : Int) then
     if 0 ≤ b0 then
      if b0 < ((List.length b1 : Nat) : Int) then
       if 0 ≤ b0 then
        if b0 < ((List.length b2 : Nat) : Int) then
         if (List.getD b1 (Int.toNat b0) 0) = (List.getD b2 (Int.toNat b0) 0) then
          laws_sameInts_L4 k ((wrap64 (b0 + 1)), b1, b2, ())
         else
          some false
        else
         none
       else
        none
      else
       none
     else
      none
    else
     some true
def laws_sameInts_ (k : Nat) : List Int × List Int → Option (Bool)
  | (a0, a1) =>
  if ((List.length a0 : Nat) : Int) = ((List.length a1 : Nat) : Int) then
   laws_sameInts_L4 k (0, a0, a1, ())
  else
   some false
noncomputable def g_laws_sameInts : List Int × List Int → Option (Bool) := evG (laws_sameInts_ )
theorem e_laws_sameInts : ∀ x b, g_laws_sameInts x = some b → ∃ k, laws_sameInts_  k x = some b := evG_e _
/- spec_Has -/
def con_spec_Has (f : Nat → Int × Int → Option (Bool)) : Con := ⟨[.c (.int .i64), .c (.int .i64)], 1, [.v false [.bool]], f⟩
def spec_Has_ (spec_SenseOk : Nat → Int → Option (Bool)) (k : Nat) : Int × Int → Option (Bool)
  | (a0, a1) =>
  (spec_SenseOk k a0).bind fun v0 =>
  if v0 = true then
   if a1 = 1 then
    if a1 = 0 then
     none
    else
     if 2 = 0 then
      none
     else
      some (decide ((Int.tmod (wrap64 (Int.tdiv a0 a1)) 2) = 1))
   else
    if a1 = 2 then
     if a1 = 0 then
      none
     else
      if 2 = 0 then
       none
      else
       some (decide ((Int.tmod (wrap64 (Int.tdiv a0 a1)) 2) = 1))
    else
     if a1 = 4 then
      if a1 = 0 then
       none
      else
       if 2 = 0 then
        none
       else
        some (decide ((Int.tmod (wrap64 (Int.tdiv a0 a1)) 2) = 1))
     else
      if a1 = 8 then
       if a1 = 0 then
        none
       else
        if 2 = 0 then
         none
        else
         some (decide ((Int.tmod (wrap64 (Int.tdiv a0 a1)) 2) = 1))
      else
       some false
  else
   some false
noncomputable def g_spec_Has : Int × Int → Option (Bool) := spec_Has_ (fun _ => g_spec_SenseOk) 0
theorem e_spec_Has : ∀ x b, g_spec_Has x = some b → ∃ k, spec_Has_ (fun _ => g_spec_SenseOk) k x = some b := fun x b h => ⟨0, h⟩
/- spec_l16Guard -/
def con_spec_l16Guard (f : Nat → (List Int × Int × Int) → Option ((List Int × Int) × (Unit × Int × Int))) : Con := ⟨[.ptr [.sl (.int .u8), .int .i64, .int .i64] 114], 1, [.v true [.own (.int .i64) 3, .int .i64], .box [.keep, .int .i64, .int .i64] 114], f⟩
def spec_l16Guard_L3 (spec_Feel : Nat → (List Int × Int) × Int × Bool → Option ((List Int × Int))) (spec_Pass : Nat → (List Int × Int) × Int → Option ((List Int × Int))) (spec_l01Below : Nat → (List Int × Int × Int) × Int → Option (Int × (Unit × Int × Int))) (spec_l01Once : Nat → (List Int × Int × Int) × Int → Option (Bool × (Unit × Int × Int))) : Nat → Int × Int × Int × List Int × Int × Int × List Int × List Int × Unit → Option ((List Int × Int) × (Unit × Int × Int))
  | 0, _ => none
  | k + 1, (b0, b1, b2, b3, b4, b5, b6, b7, ()) =>
    (spec_l01Below k ((b3, (b1, b2)), 14)).bind fun v0 =>
    if b0 < v0.1 then
     (spec_l01Below k ((b3, v0.2.2), 8)).bind fun v1 =>
     (spec_Pass k ((b7, b5), v1.1)).bind fun v2 =>
     (spec_l01Once k ((b3, v1.2.2), 6)).bind fun v3 =>
     if v3.1 = true then
      (spec_l01Below k ((b3, v3.2.2), 16)).bind fun v4 =>
      (spec_l01Once k ((b3, v4.2.2), 2)).bind fun v5 =>
      (spec_Feel k (v2, (v4.1, v5.1))).bind fun v6 =>
      spec_l16Guard_L3 spec_Feel spec_Pass spec_l01Below spec_l01Once k ((wrap64 (b0 + 1)), v5.2.2.1, v5.2.2.2, b3, b4, v6.2, b6, v6.1, ())
     else
      spec_l16Guard_L3 spec_Feel spec_Pass spec_l01Below spec_l01Once k ((wrap64 (b0 + 1)), v3.2.2.1, v3.2.2.2, b3, b4, v2.2, b6, v2.1, ())
    else
     (spec_l01Once k ((b3, v0.2.2), 2)).bind fun v7 =>
     if v7.1 = true then
      some ((b7, 0), ((), v7.2.2))
     else
      some ((b7, b5), ((), v7.2.2))
def spec_l16Guard_ (spec_Feel : Nat → (List Int × Int) × Int × Bool → Option ((List Int × Int))) (spec_Pass : Nat → (List Int × Int) × Int → Option ((List Int × Int))) (spec_l01Below : Nat → (List Int × Int × Int) × Int → Option (Int × (Unit × Int × Int))) (spec_l01Once : Nat → (List Int × Int × Int) × Int → Option (Bool × (Unit × Int × Int))) (k : Nat) : (List Int × Int × Int) → Option ((List Int × Int) × (Unit × Int × Int))
  | (a0, a1, a2) =>
  spec_l16Guard_L3 spec_Feel spec_Pass spec_l01Below spec_l01Once k (0, a1, a2, a0, 0, 0, [], [], ())
noncomputable def g_spec_l16Guard : (List Int × Int × Int) → Option ((List Int × Int) × (Unit × Int × Int)) := evG (spec_l16Guard_ (fun _ => g_spec_Feel) (fun _ => g_spec_Pass) (fun _ => g_spec_l01Below) (fun _ => g_spec_l01Once))
theorem e_spec_l16Guard : ∀ x b, g_spec_l16Guard x = some b → ∃ k, spec_l16Guard_ (fun _ => g_spec_Feel) (fun _ => g_spec_Pass) (fun _ => g_spec_l01Below) (fun _ => g_spec_l01Once) k x = some b := evG_e _
/- spec_DrawGuard -/
def con_spec_DrawGuard (f : Nat → List Int → Option ((List Int × Int))) : Con := ⟨[.c (.sl (.int .u8))], 1, [.v true [.own (.int .i64) 3, .int .i64]], f⟩
def spec_DrawGuard_ (spec_l01New : Nat → List Int → Option ((Unit × Int × Int))) (spec_l16Guard : Nat → (List Int × Int × Int) → Option ((List Int × Int) × (Unit × Int × Int))) (k : Nat) : List Int → Option ((List Int × Int))
  | a0 =>
  (spec_l01New k a0).bind fun v0 =>
  (spec_l16Guard k (a0, v0.2)).bind fun v1 =>
  some v1.1
noncomputable def g_spec_DrawGuard : List Int → Option ((List Int × Int)) := spec_DrawGuard_ (fun _ => g_spec_l01New) (fun _ => g_spec_l16Guard) 0
theorem e_spec_DrawGuard : ∀ x b, g_spec_DrawGuard x = some b → ∃ k, spec_DrawGuard_ (fun _ => g_spec_l01New) (fun _ => g_spec_l16Guard) k x = some b := fun x b h => ⟨0, h⟩
/- laws_FnAlarms -/
def con_laws_FnAlarms (f : Nat → List Int → Option (Bool)) : Con := ⟨[.c (.sl (.int .u8))], 1, [.v false [.bool]], f⟩
def laws_FnAlarms_L10 (impl_Allow : Nat → (List Int × Int) × Int → Option (Int)) (impl_Feel : Nat → (List Int × Int) × Int × Bool → Option ((List Int × Int))) (impl_GuardOk : Nat → (List Int × Int) → Option (Bool)) (laws_big : Nat → List Int → Option (Bool)) (laws_sameInts : Nat → List Int × List Int → Option (Bool)) (spec_DrawGuard : Nat → List Int → Option ((List Int × Int))) (spec_DrawPlaces : Nat → List Int → Option (List Int)) (spec_Has : Nat → Int × Int → Option (Bool)) : Nat → Int × Int × Int × List Int × Int × Int × Int × List Int × List Int × List Int × List Int × Unit → Option (Bool)
  | 0, _ => none
  | k + 1, (b0, b1, b2, b3, b4, b5, b6, b7, b8, b9, b10, ()) =>
    if b1 ≤ 8 then
     (spec_Has k (b4, b1)).bind fun v0 =>
     (spec_Has k (b2, b1)).bind fun v1 =>
     if v1 = true then
      if (v0 == true) = true then
       laws_FnAlarms_L10 impl_Allow impl_Feel impl_GuardOk laws_big laws_sameInts spec_DrawGuard spec_DrawPlaces spec_Has k (b0, (wrap64 (2 * b1)), b2, b3, b4, b5, b6, b7, b8, b9, b10, ())
      else
       some false
     else
      (spec_Has k (b0, b1)).bind fun v2 =>
      if (v0 == v2) = true then
       laws_FnAlarms_L10 impl_Allow impl_Feel impl_GuardOk laws_big laws_sameInts spec_DrawGuard spec_DrawPlaces spec_Has k (b0, (wrap64 (2 * b1)), b2, b3, b4, b5, b6, b7, b8, b9, b10, ())
      else
       some false
    else
     if 0 ≤ 1 then
      if 1 < ((List.length b3 : Nat) : Int) then
       if 16 = 0 then
        none
       else
        if b5 = (Int.tmod (List.getD b3 (Int.toNat 1) 0) 16) then
         if b6 = b4 then
          if b4 = 0 then
           (impl_GuardOk k (b8, b4)).bind fun v3 =>
           if v3 = true then
            (laws_sameInts k (b8, b7)).bind fun v4 =>
            if v4 = true then
             (impl_Feel k ((b7, b2), (16, true))).bind fun v5 =>
             some (decide (v5.2 = b2))
            else
             some false
           else
            some false
          else
           (impl_Allow k ((b8, b4), 5)).bind fun v6 =>
           if v6 = 0 then
            (impl_GuardOk k (b8, b4)).bind fun v7 =>
            if v7 = true then
             (laws_sameInts k (b8, b7)).bind fun v8 =>
             if v8 = true then
              (impl_Feel k ((b7, b2), (16, true))).bind fun v9 =>
              some (decide (v9.2 = b2))
             else
              some false
            else
             some false
           else
            some false
         else
          some false
        else
         some false
      else
       none
     else
      none
def laws_FnAlarms_ (impl_Allow : Nat → (List Int × Int) × Int → Option (Int)) (impl_Feel : Nat → (List Int × Int) × Int × Bool → Option ((List Int × Int))) (impl_GuardOk : Nat → (List Int × Int) → Option (Bool)) (laws_big : Nat → List Int → Option (Bool)) (laws_sameInts : Nat → List Int × List Int → Option (Bool)) (spec_DrawGuard : Nat → List Int → Option ((List Int × Int))) (spec_DrawPlaces : Nat → List Int → Option (List Int)) (spec_Has : Nat → Int × Int → Option (Bool)) (k : Nat) : List Int → Option (Bool)
  | a0 =>
  (laws_big k a0).bind fun v0 =>
  if v0 = true then
   some true
  else
   (spec_DrawGuard k a0).bind fun v1 =>
   (spec_DrawPlaces k a0).bind fun v2 =>
   if 0 ≤ 0 then
    if 0 < ((List.length v2 : Nat) : Int) then
     if 16 = 0 then
      none
     else
      (impl_Feel k (v1, ((Int.tmod (List.getD v2 (Int.toNat 0) 0) 16), false))).bind fun v3 =>
      if 0 ≤ 1 then
       if 1 < ((List.length v2 : Nat) : Int) then
        if 16 = 0 then
         none
        else
         (impl_Feel k (v3, ((Int.tmod (List.getD v2 (Int.toNat 1) 0) 16), true))).bind fun v4 =>
         (impl_Feel k (v3, (0, false))).bind fun v5 =>
         laws_FnAlarms_L10 impl_Allow impl_Feel impl_GuardOk laws_big laws_sameInts spec_DrawGuard spec_DrawPlaces spec_Has k ((Int.tmod (List.getD v2 (Int.toNat 0) 0) 16), 1, v1.2, v2, v3.2, v4.2, v5.2, v1.1, v3.1, v4.1, v5.1, ())
       else
        none
      else
       none
    else
     none
   else
    none
noncomputable def g_laws_FnAlarms : List Int → Option (Bool) := evG (laws_FnAlarms_ (fun _ => g_impl_Allow) (fun _ => g_impl_Feel) (fun _ => g_impl_GuardOk) (fun _ => g_laws_big) (fun _ => g_laws_sameInts) (fun _ => g_spec_DrawGuard) (fun _ => g_spec_DrawPlaces) (fun _ => g_spec_Has))
theorem e_laws_FnAlarms : ∀ x b, g_laws_FnAlarms x = some b → ∃ k, laws_FnAlarms_ (fun _ => g_impl_Allow) (fun _ => g_impl_Feel) (fun _ => g_impl_GuardOk) (fun _ => g_laws_big) (fun _ => g_laws_sameInts) (fun _ => g_spec_DrawGuard) (fun _ => g_spec_DrawPlaces) (fun _ => g_spec_Has) k x = some b := evG_e _
end Go.Sx.T
