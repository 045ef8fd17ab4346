/- Functions of the program as functions of Lean, and that the program keeps to them. -/
import Derived.Test.YthimkepabblloaaSyP17
set_option maxRecDepth 100000
set_option linter.unusedVariables false
set_option linter.unusedSimpArgs false
namespace Go.Proofs
end Go.Proofs
namespace Go.Sx.T
open Go Go.Sx Go.Proofs Go.RowKit
/- impl_within -/
def con_impl_within (f : Nat → Int × Int × Int → Option (Bool)) : Con := ⟨[.c (.int .i64), .c (.int .i64), .c (.int .i64)], 1, [.v false [.bool]], f⟩
def impl_within_ (k : Nat) : Int × Int × Int → Option (Bool)
  | (a0, a1, a2) =>
  if a1 ≤ a0 then
   some (decide (a0 ≤ a2))
  else
   some false
noncomputable def g_impl_within : Int × Int × Int → Option (Bool) := impl_within_  0
theorem e_impl_within : ∀ x b, g_impl_within x = some b → ∃ k, impl_within_  k x = some b := fun x b h => ⟨0, h⟩
/- impl_OrderOk -/
def con_impl_OrderOk (f : Nat → (Int × Int × Int × Int) → Option (Bool)) : Con := ⟨[.agg [.int .i64, .int .i64, .int .i64, .int .i64]], 1, [.v false [.bool]], f⟩
def impl_OrderOk_ (impl_within : Nat → Int × Int × Int → Option (Bool)) (k : Nat) : (Int × Int × Int × Int) → Option (Bool)
  | (a0, a1, a2, a3) =>
  if a0 = 1 then
   (impl_within k (a2, (1, 1000))).bind fun v0 =>
   if v0 = true then
    (impl_within k (a1, (1, (mn 1000 (wrap64 (3 * a2)))))).bind fun v1 =>
    if v1 = true then
     (impl_within k (a3, (1, 5000))).bind fun v2 =>
     some v2
    else
     some false
   else
    some false
  else
   if a0 = 2 then
    if a0 = 2 then
     if a1 = 0 then
      if a2 = 0 then
       if a3 = a3 then
        (impl_within k (a3, (1, 100))).bind fun v3 =>
        some v3
       else
        some false
      else
       some false
     else
      some false
    else
     some false
   else
    (impl_within k (a0, (3, 6))).bind fun v4 =>
    if v4 = true then
     some ((decide (a0 = a0)) && ((decide (a1 = 0)) && ((decide (a2 = 0)) && (decide (a3 = 0)))))
    else
     some false
noncomputable def g_impl_OrderOk : (Int × Int × Int × Int) → Option (Bool) := impl_OrderOk_ (fun _ => g_impl_within) 0
theorem e_impl_OrderOk : ∀ x b, g_impl_OrderOk x = some b → ∃ k, impl_OrderOk_ (fun _ => g_impl_within) k x = some b := fun x b h => ⟨0, h⟩
/- impl_ReadVar -/
def con_impl_ReadVar (f : Nat → ByteArray × Int → Option (Int × Int × Bool)) : Con := ⟨[.c (.str), .c (.int .i64)], 3, [.v false [.int .i64], .v false [.int .i64], .v false [.bool]], f⟩
def impl_ReadVar_L5 (impl_within : Nat → Int × Int × Int → Option (Bool)) : Nat → ByteArray × Int × Int × Int × Unit → Option (Int × Int × Bool)
  | 0, _ => none
  | k + 1, (b0, b1, b2, b3, ()) =>
    if b3 < 5 then
     if (wrap64 (b1 + b3)) < ((ByteArray.size b0 : Nat) : Int) then
      if 0 ≤ (wrap64 (b1 + b3)) then
       if (wrap64 (b1 + b3)) < ((ByteArray.size b0 : Nat) : Int) then
        if 128 = 0 then
         none
        else
         if 0 ≤ (wrap64 (7 * b3)) then
          if 127 < (wrap64 (byt b0 (wrap64 (b1 + b3)))) then
           impl_ReadVar_L5 impl_within k (b0, b1, (wrap64 (b2 + (wr .i64 ((Int.tmod (wrap64 (byt b0 (wrap64 (b1 + b3)))) 128) * 2 ^ (min (Int.toNat (wrap64 (7 * b3))) (IntKind.bits .i64)))))), (wrap64 (b3 + 1)), ())
          else
           if 0 < b3 then
            if (wrap64 (byt b0 (wrap64 (b1 + b3)))) = 0 then
             some (0, (0, false))
            else
             if 1000000000 < (wrap64 (b2 + (wr .i64 ((Int.tmod (wrap64 (byt b0 (wrap64 (b1 + b3)))) 128) * 2 ^ (min (Int.toNat (wrap64 (7 * b3))) (IntKind.bits .i64)))))) then
              some (0, (0, false))
             else
              some ((wrap64 (b2 + (wr .i64 ((Int.tmod (wrap64 (byt b0 (wrap64 (b1 + b3)))) 128) * 2 ^ (min (Int.toNat (wrap64 (7 * b3))) (IntKind.bits .i64)))))), ((wrap64 ((wrap64 (b1 + b3)) + 1)), true))
           else
            if 1000000000 < (wrap64 (b2 + (wr .i64 ((Int.tmod (wrap64 (byt b0 (wrap64 (b1 + b3)))) 128) * 2 ^ (min (Int.toNat (wrap64 (7 * b3))) (IntKind.bits .i64)))))) then
             some (0, (0, false))
            else
             some ((wrap64 (b2 + (wr .i64 ((Int.tmod (wrap64 (byt b0 (wrap64 (b1 + b3)))) 128) * 2 ^ (min (Int.toNat (wrap64 (7 * b3))) (IntKind.bits .i64)))))), ((wrap64 ((wrap64 (b1 + b3)) + 1)), true))
         else
          none
       else
        none
      else
       none
     else
      some (0, (0, false))
    else
     some (0, (0, false))
def impl_ReadVar_ (impl_within : Nat → Int × Int × Int → Option (Bool)) (k : Nat) : ByteArray × Int → Option (Int × Int × Bool)
  | (a0, a1) =>
  (impl_within k (a1, (0, ((ByteArray.size a0 : Nat) : Int)))).bind fun v0 =>
  if v0 = true then
   impl_ReadVar_L5 impl_within k (a0, a1, 0, 0, ())
  else
   some (0, (0, false))
noncomputable def g_impl_ReadVar : ByteArray × Int → Option (Int × Int × Bool) := evG (impl_ReadVar_ (fun _ => g_impl_within))
theorem e_impl_ReadVar : ∀ x b, g_impl_ReadVar x = some b → ∃ k, impl_ReadVar_ (fun _ => g_impl_within) k x = some b := evG_e _
/- impl_reader__number -/
def con_impl_reader__number (f : Nat → (ByteArray × Int × Bool) → Option (Int × (ByteArray × Int × Bool))) : Con := ⟨[.ptr [.str, .int .i64, .bool] 109], 1, [.v false [.int .i64], .box [.str, .int .i64, .bool] 109], f⟩
def impl_reader__number_ (impl_ReadVar : Nat → ByteArray × Int → Option (Int × Int × Bool)) (k : Nat) : (ByteArray × Int × Bool) → Option (Int × (ByteArray × Int × Bool))
  | (a0, a1, a2) =>
  (impl_ReadVar k (a0, a1)).bind fun v0 =>
  if a2 = true then
   some (0, (a0, (a1, true)))
  else
   if v0.2.2 = true then
    some (v0.1, (a0, (v0.2.1, a2)))
   else
    some (0, (a0, (a1, true)))
noncomputable def g_impl_reader__number : (ByteArray × Int × Bool) → Option (Int × (ByteArray × Int × Bool)) := impl_reader__number_ (fun _ => g_impl_ReadVar) 0
theorem e_impl_reader__number : ∀ x b, g_impl_reader__number x = some b → ∃ k, impl_reader__number_ (fun _ => g_impl_ReadVar) k x = some b := fun x b h => ⟨0, h⟩
/- impl_highFirst -/
def con_impl_highFirst (f : Nat → Int × Int → Option (ByteArray)) : Con := ⟨[.c (.int .i64), .c (.int .i64)], 1, [.v false [.str]], f⟩
def impl_highFirst_L3 : Nat → Int × Int × List Int × Unit → Option (ByteArray)
  | 0, _ => none
  | k + 1, (b0, b1, b2, ()) =>
    if 0 ≤ b1 then
     if 0 ≤ b1 then
      if b1 < ((List.length b2 : Nat) : Int) then
       if 0 ≤ 8 then impl_highFirst_L3 k ((Int.fdiv b0 (2 ^ (min (Int.toNat 8) (IntKind.bits .i64)))), (wrap64 (b1 - 1)), (List.set b2 (Int.toNat b1) (wr .u8 (iand .i64 b0 255))), ()) else none
      else
       none
     else
      none
    else
     some (bstr b2)
def impl_highFirst_ (k : Nat) : Int × Int → Option (ByteArray)
  | (a0, a1) =>
  if a1 = a1 then
   if 0 ≤ a1 then
    if (a1 * ((1 : Nat) : Int)) ≤ 140737488355328 then impl_highFirst_L3 k (a0, (wrap64 (a1 - 1)), (List.replicate (Int.toNat a1) 0), ()) else none
   else
    none
  else
   none
noncomputable def g_impl_highFirst : Int × Int → Option (ByteArray) := evG (impl_highFirst_ )
theorem e_impl_highFirst : ∀ x b, g_impl_highFirst x = some b → ∃ k, impl_highFirst_  k x = some b := evG_e _
/- impl_SumMore -/
def con_impl_SumMore (f : Nat → Int × ByteArray → Option (Int)) : Con := ⟨[.c (.int .u32), .c (.str)], 1, [.v false [.int .u32]], f⟩
mutual
def impl_SumMore_L2 : Nat → Int × ByteArray × Int × Unit → Option (Int)
  | 0, _ => none
  | k + 1, (b0, b1, b2, ()) =>
    if b2 < ((ByteArray.size b1 : Nat) : Int) then
     if 0 ≤ b2 then
      if b2 < ((ByteArray.size b1 : Nat) : Int) then impl_SumMore_L6 k ((ixor .u32 b0 (wr .u32 (byt b1 b2))), b1, b2, 0, ()) else none
     else
      none
    else
     some b0
def impl_SumMore_L6 : Nat → Int × ByteArray × Int × Int × Unit → Option (Int)
  | 0, _ => none
  | k + 1, (b0, b1, b2, b3, ()) =>
    if b3 < 8 then
     if 2 = 0 then
      none
     else
      if 2 = 0 then
       none
      else
       if (Int.tmod b0 2) = 1 then
        impl_SumMore_L6 k ((ixor .u32 (wr .u32 (Int.tdiv b0 2)) 3558460437), b1, b2, (wrap64 (b3 + 1)), ())
       else
        impl_SumMore_L6 k ((wr .u32 (Int.tdiv b0 2)), b1, b2, (wrap64 (b3 + 1)), ())
    else
     impl_SumMore_L2 k (b0, b1, (wrap64 (b2 + 1)), ())
end
def impl_SumMore_ (k : Nat) : Int × ByteArray → Option (Int)
  | (a0, a1) =>
  impl_SumMore_L2 k (a0, a1, 0, ())
noncomputable def g_impl_SumMore : Int × ByteArray → Option (Int) := evG (impl_SumMore_ )
theorem e_impl_SumMore : ∀ x b, g_impl_SumMore x = some b → ∃ k, impl_SumMore_  k x = some b := evG_e _
/- impl_SumOf -/
def con_impl_SumOf (f : Nat → ByteArray → Option (Int)) : Con := ⟨[.c (.str)], 1, [.v false [.int .u32]], f⟩
def impl_SumOf_ (impl_SumMore : Nat → Int × ByteArray → Option (Int)) (k : Nat) : ByteArray → Option (Int)
  | a0 =>
  (impl_SumMore k (4294967295, a0)).bind fun v0 =>
  some v0
noncomputable def g_impl_SumOf : ByteArray → Option (Int) := impl_SumOf_ (fun _ => g_impl_SumMore) 0
theorem e_impl_SumOf : ∀ x b, g_impl_SumOf x = some b → ∃ k, impl_SumOf_ (fun _ => g_impl_SumMore) k x = some b := fun x b h => ⟨0, h⟩
/- impl_Sealed -/
def con_impl_Sealed (f : Nat → ByteArray → Option (ByteArray × Bool)) : Con := ⟨[.c (.str)], 2, [.v false [.str], .v false [.bool]], f⟩
def impl_Sealed_ (impl_SumOf : Nat → ByteArray → Option (Int)) (impl_highFirst : Nat → Int × Int → Option (ByteArray)) (k : Nat) : ByteArray → Option (ByteArray × Bool)
  | a0 =>
  if 20000 < ((ByteArray.size a0 : Nat) : Int) then
   some ((⟨#[]⟩ : ByteArray), false)
  else
   (impl_SumOf k a0).bind fun v0 =>
   (impl_highFirst k ((wrap64 v0), 4)).bind fun v1 =>
   if ((ByteArray.size a0 + ByteArray.size v1 : Nat) : Int) ≤ 9223372036854775807 then some ((a0 ++ v1), true) else none
noncomputable def g_impl_Sealed : ByteArray → Option (ByteArray × Bool) := impl_Sealed_ (fun _ => g_impl_SumOf) (fun _ => g_impl_highFirst) 0
theorem e_impl_Sealed : ∀ x b, g_impl_Sealed x = some b → ∃ k, impl_Sealed_ (fun _ => g_impl_SumOf) (fun _ => g_impl_highFirst) k x = some b := fun x b h => ⟨0, h⟩
/- impl_Unsealed -/
def con_impl_Unsealed (f : Nat → ByteArray → Option (ByteArray × Bool)) : Con := ⟨[.c (.str)], 2, [.v false [.str], .v false [.bool]], f⟩
def impl_Unsealed_ (impl_Sealed : Nat → ByteArray → Option (ByteArray × Bool)) (k : Nat) : ByteArray → Option (ByteArray × Bool)
  | a0 =>
  if (wrap64 (((ByteArray.size a0 : Nat) : Int) - 4)) < 0 then
   some ((⟨#[]⟩ : ByteArray), false)
  else
   if 0 ≤ (wrap64 (((ByteArray.size a0 : Nat) : Int) - 4)) then
    if (wrap64 (((ByteArray.size a0 : Nat) : Int) - 4)) ≤ ((ByteArray.size a0 : Nat) : Int) then (impl_Sealed k (ByteArray.extract a0 (Int.toNat 0) (Int.toNat (wrap64 (((ByteArray.size a0 : Nat) : Int) - 4))))).bind fun v0 =>
     if v0.2 = true then
      if v0.1 = a0 then
       if 0 ≤ (wrap64 (((ByteArray.size a0 : Nat) : Int) - 4)) then
        if (wrap64 (((ByteArray.size a0 : Nat) : Int) - 4)) ≤ ((ByteArray.size a0 : Nat) : Int) then some ((ByteArray.extract a0 (Int.toNat 0) (Int.toNat (wrap64 (((ByteArray.size a0 : Nat) : Int) - 4)))), true) else none
       else
        none
      else
       some ((⟨#[]⟩ : ByteArray), false)
     else
      some ((⟨#[]⟩ : ByteArray), false) else none
   else
    none
noncomputable def g_impl_Unsealed : ByteArray → Option (ByteArray × Bool) := impl_Unsealed_ (fun _ => g_impl_Sealed) 0
theorem e_impl_Unsealed : ∀ x b, g_impl_Unsealed x = some b → ∃ k, impl_Unsealed_ (fun _ => g_impl_Sealed) k x = some b := fun x b h => ⟨0, h⟩
/- impl_ReadOrder -/
def con_impl_ReadOrder (f : Nat → ByteArray → Option ((Int × Int × Int × Int) × Bool)) : Con := ⟨[.c (.str)], 2, [.v true [.int .i64, .int .i64, .int .i64, .int .i64], .v false [.bool]], f⟩
def impl_ReadOrder_ (impl_OrderOk : Nat → (Int × Int × Int × Int) → Option (Bool)) (impl_Unsealed : Nat → ByteArray → Option (ByteArray × Bool)) (impl_reader__number : Nat → (ByteArray × Int × Bool) → Option (Int × (ByteArray × Int × Bool))) (k : Nat) : ByteArray → Option ((Int × Int × Int × Int) × Bool)
  | a0 =>
  (impl_Unsealed k a0).bind fun v0 =>
  if v0.2 = true then
   if v0.1 = (⟨#[]⟩ : ByteArray) then
    some ((0, (0, (0, 0))), false)
   else
    if 0 ≤ 0 then
     if 0 < ((ByteArray.size v0.1 : Nat) : Int) then (impl_reader__number k (v0.1, (1, false))).bind fun v1 =>
      (impl_reader__number k v1.2).bind fun v2 =>
      (impl_reader__number k v2.2).bind fun v3 =>
      if v3.2.2.2 = true then
       some ((0, (0, (0, 0))), false)
      else
       if v3.2.2.1 = ((ByteArray.size v0.1 : Nat) : Int) then
        (impl_OrderOk k ((wrap64 (byt v0.1 0)), (v1.1, (v2.1, v3.1)))).bind fun v4 =>
        if v4 = true then
         some (((wrap64 (byt v0.1 0)), (v1.1, (v2.1, v3.1))), true)
        else
         some ((0, (0, (0, 0))), false)
       else
        some ((0, (0, (0, 0))), false) else none
    else
     none
  else
   some ((0, (0, (0, 0))), false)
noncomputable def g_impl_ReadOrder : ByteArray → Option ((Int × Int × Int × Int) × Bool) := impl_ReadOrder_ (fun _ => g_impl_OrderOk) (fun _ => g_impl_Unsealed) (fun _ => g_impl_reader__number) 0
theorem e_impl_ReadOrder : ∀ x b, g_impl_ReadOrder x = some b → ∃ k, impl_ReadOrder_ (fun _ => g_impl_OrderOk) (fun _ => g_impl_Unsealed) (fun _ => g_impl_reader__number) k x = some b := fun x b h => ⟨0, h⟩
/- laws_turned -/
def con_laws_turned (f : Nat → ByteArray × List Int → Option (ByteArray)) : Con := ⟨[.c (.str), .c (.sl (.int .i64))], 1, [.v false [.str]], f⟩
def laws_turned_ (k : Nat) : ByteArray × List Int → Option (ByteArray)
  | (a0, a1) =>
  if ((ByteArray.size a0 : Nat) : Int) ≤ 9223372036854775807 then
   if ((List.length (byl a0) : Nat) : Int) = 0 then
    some (⟨#[120]⟩ : ByteArray)
   else
    if 0 ≤ 0 then
     if 0 < ((List.length a1 : Nat) : Int) then
      if ((List.length (byl a0) : Nat) : Int) = 0 then
       none
      else
       if 0 ≤ (Int.tmod (List.getD a1 (Int.toNat 0) 0) ((List.length (byl a0) : Nat) : Int)) then
        if (Int.tmod (List.getD a1 (Int.toNat 0) 0) ((List.length (byl a0) : Nat) : Int)) < ((List.length (byl a0) : Nat) : Int) then
         if 0 ≤ 1 then
          if 1 < ((List.length a1 : Nat) : Int) then
           if 255 = 0 then
            none
           else
            if 0 ≤ (Int.tmod (List.getD a1 (Int.toNat 0) 0) ((List.length (byl a0) : Nat) : Int)) then
             if (Int.tmod (List.getD a1 (Int.toNat 0) 0) ((List.length (byl a0) : Nat) : Int)) < ((List.length (byl a0) : Nat) : Int) then some (bstr (List.set (byl a0) (Int.toNat (Int.tmod (List.getD a1 (Int.toNat 0) 0) ((List.length (byl a0) : Nat) : Int))) (ixor .u8 (List.getD (byl a0) (Int.toNat (Int.tmod (List.getD a1 (Int.toNat 0) 0) ((List.length (byl a0) : Nat) : Int))) 0) (wr .u8 (wrap64 (1 + (Int.tmod (List.getD a1 (Int.toNat 1) 0) 255))))))) else none
            else
             none
          else
           none
         else
          none
        else
         none
       else
        none
     else
      none
    else
     none
  else
   none
noncomputable def g_laws_turned : ByteArray × List Int → Option (ByteArray) := laws_turned_  0
theorem e_laws_turned : ∀ x b, g_laws_turned x = some b → ∃ k, laws_turned_  k x = some b := fun x b h => ⟨0, h⟩
/- spec_l01Byte -/
def con_spec_l01Byte (f : Nat → (List Int × Int × Int) → Option (Int × (Unit × Int × Int))) : Con := ⟨[.ptr [.sl (.int .u8), .int .i64, .int .i64] 155], 1, [.v false [.int .i64], .box [.keep, .int .i64, .int .i64] 155], f⟩
def spec_l01Byte_ (k : Nat) : (List Int × Int × Int) → Option (Int × (Unit × Int × Int))
  | (a0, a1, a2) =>
  if 0 ≤ 33 then
   if 0 ≤ 45 then
    if a1 < ((List.length a0 : Nat) : Int) then
     if 0 ≤ a1 then
      if a1 < ((List.length a0 : Nat) : Int) then some ((iand .i64 (wrap64 ((iand .i64 (ixor .i64 (Int.fdiv (wrap64 ((wrap64 (a2 * 6364136223846793005)) + 1442695040888963407)) (2 ^ (min (Int.toNat 33) (IntKind.bits .i64)))) (Int.fdiv (wrap64 ((wrap64 (a2 * 6364136223846793005)) + 1442695040888963407)) (2 ^ (min (Int.toNat 45) (IntKind.bits .i64))))) 255) + (wrap64 (List.getD a0 (Int.toNat a1) 0)))) 255), ((), ((wrap64 (a1 + 1)), (wrap64 ((wrap64 (a2 * 6364136223846793005)) + 1442695040888963407))))) else none
     else
      none
    else
     some ((iand .i64 (ixor .i64 (Int.fdiv (wrap64 ((wrap64 (a2 * 6364136223846793005)) + 1442695040888963407)) (2 ^ (min (Int.toNat 33) (IntKind.bits .i64)))) (Int.fdiv (wrap64 ((wrap64 (a2 * 6364136223846793005)) + 1442695040888963407)) (2 ^ (min (Int.toNat 45) (IntKind.bits .i64))))) 255), ((), (a1, (wrap64 ((wrap64 (a2 * 6364136223846793005)) + 1442695040888963407)))))
   else
    none
  else
   none
noncomputable def g_spec_l01Byte : (List Int × Int × Int) → Option (Int × (Unit × Int × Int)) := spec_l01Byte_  0
theorem e_spec_l01Byte : ∀ x b, g_spec_l01Byte x = some b → ∃ k, spec_l01Byte_  k x = some b := fun x b h => ⟨0, h⟩
/- spec_l01Below -/
def con_spec_l01Below (f : Nat → (List Int × Int × Int) × Int → Option (Int × (Unit × Int × Int))) : Con := ⟨[.ptr [.sl (.int .u8), .int .i64, .int .i64] 155, .c (.int .i64)], 1, [.v false [.int .i64], .box [.keep, .int .i64, .int .i64] 155], f⟩
def spec_l01Below_ (spec_l01Byte : Nat → (List Int × Int × Int) → Option (Int × (Unit × Int × Int))) (k : Nat) : (List Int × Int × Int) × Int → Option (Int × (Unit × Int × Int))
  | ((a0, a1, a2), a3) =>
  if a3 ≤ 0 then
   some (0, ((), (a1, a2)))
  else
   if a3 ≤ 256 then
    (spec_l01Byte k (a0, (a1, a2))).bind fun v0 =>
    if a3 = 0 then
     none
    else
     some ((Int.tmod v0.1 a3), ((), v0.2.2))
   else
    (spec_l01Byte k (a0, (a1, a2))).bind fun v1 =>
    (spec_l01Byte k (a0, v1.2.2)).bind fun v2 =>
    (spec_l01Byte k (a0, v2.2.2)).bind fun v3 =>
    (spec_l01Byte k (a0, v3.2.2)).bind fun v4 =>
    if a3 = 0 then
     none
    else
     some ((Int.tmod (wrap64 ((wrap64 ((wrap64 ((wrap64 (v1.1 * 16777216)) + (wrap64 (v2.1 * 65536)))) + (wrap64 (v3.1 * 256)))) + v4.1)) a3), ((), v4.2.2))
noncomputable def g_spec_l01Below : (List Int × Int × Int) × Int → Option (Int × (Unit × Int × Int)) := spec_l01Below_ (fun _ => g_spec_l01Byte) 0
theorem e_spec_l01Below : ∀ x b, g_spec_l01Below x = some b → ∃ k, spec_l01Below_ (fun _ => g_spec_l01Byte) k x = some b := fun x b h => ⟨0, h⟩
/- spec_l01New -/
def con_spec_l01New (f : Nat → List Int → Option ((Unit × Int × Int))) : Con := ⟨[.c (.sl (.int .u8))], 1, [.box [.al 0 0, .int .i64, .int .i64] 155], f⟩
def spec_l01New_L3 : Nat → Int × Int × List Int × Unit → Option ((Unit × Int × Int))
  | 0, _ => none
  | k + 1, (b0, b1, b2, ()) =>
    if b1 < ((List.length b2 : Nat) : Int) then
     if b1 < 4000 then
      if 0 ≤ b1 then
       if b1 < ((List.length b2 : Nat) : Int) then spec_l01New_L3 k ((iand .i64 (wrap64 ((wrap64 ((wrap64 (b0 * 131)) + (wrap64 (List.getD b2 (Int.toNat b1) 0)))) + 7)) 1073741823), (wrap64 (b1 + 1)), b2, ()) else none
      else
       none
     else
      some ((), (0, b0))
    else
     some ((), (0, b0))
def spec_l01New_ (k : Nat) : List Int → Option ((Unit × Int × Int))
  | a0 =>
  spec_l01New_L3 k ((wrap64 (37101 + ((List.length a0 : Nat) : Int))), 0, a0, ())
noncomputable def g_spec_l01New : List Int → Option ((Unit × Int × Int)) := evG (spec_l01New_ )
theorem e_spec_l01New : ∀ x b, g_spec_l01New x = some b → ∃ k, spec_l01New_  k x = some b := evG_e _
/- spec_DrawPlaces -/
def con_spec_DrawPlaces (f : Nat → List Int → Option (List Int)) : Con := ⟨[.c (.sl (.int .u8))], 1, [.v false [.own (.int .i64) 3]], f⟩
def spec_DrawPlaces_L5 (spec_l01Below : Nat → (List Int × Int × Int) × Int → Option (Int × (Unit × Int × Int))) (spec_l01Byte : Nat → (List Int × Int × Int) → Option (Int × (Unit × Int × Int))) (spec_l01New : Nat → List Int → Option ((Unit × Int × Int))) : Nat → Int × List Int × Int × Int × List Int × Unit → Option (List Int)
  | 0, _ => none
  | k + 1, (b0, b1, b2, b3, b4, ()) =>
    if b0 < 12 then
     (spec_l01Below k ((b1, (b2, b3)), 10000)).bind fun v0 =>
     if (((List.length b4 + List.length [v0.1] : Nat) : Int) * ((8 : Nat) : Int)) ≤ 140737488355328 then spec_DrawPlaces_L5 spec_l01Below spec_l01Byte spec_l01New k ((wrap64 (b0 + 1)), b1, v0.2.2.1, v0.2.2.2, (b4 ++ [v0.1]), ()) else none
    else
     some b4
def spec_DrawPlaces_ (spec_l01Below : Nat → (List Int × Int × Int) × Int → Option (Int × (Unit × Int × Int))) (spec_l01Byte : Nat → (List Int × Int × Int) → Option (Int × (Unit × Int × Int))) (spec_l01New : Nat → List Int → Option ((Unit × Int × Int))) (k : Nat) : List Int → Option (List Int)
  | a0 =>
  (spec_l01New k a0).bind fun v0 =>
  (spec_l01Byte k (a0, v0.2)).bind fun v1 =>
  spec_DrawPlaces_L5 spec_l01Below spec_l01Byte spec_l01New k (0, a0, v1.2.2.1, v1.2.2.2, ([] : List Int), ())
noncomputable def g_spec_DrawPlaces : List Int → Option (List Int) := evG (spec_DrawPlaces_ (fun _ => g_spec_l01Below) (fun _ => g_spec_l01Byte) (fun _ => g_spec_l01New))
theorem e_spec_DrawPlaces : ∀ x b, g_spec_DrawPlaces x = some b → ∃ k, spec_DrawPlaces_ (fun _ => g_spec_l01Below) (fun _ => g_spec_l01Byte) (fun _ => g_spec_l01New) k x = some b := evG_e _
/- impl_VarText -/
def con_impl_VarText (f : Nat → Int → Option (ByteArray × Bool)) : Con := ⟨[.c (.int .i64)], 2, [.v false [.str], .v false [.bool]], f⟩
def impl_VarText_L4 (impl_within : Nat → Int × Int × Int → Option (Bool)) : Nat → Int × List Int × Unit → Option (ByteArray × Bool)
  | 0, _ => none
  | k + 1, (b0, b1, ()) =>
    if 127 < b0 then
     if 128 = 0 then
      none
     else
      if (((List.length b1 + List.length [(wr .u8 (wrap64 ((Int.tmod b0 128) + 128)))] : Nat) : Int) * ((1 : Nat) : Int)) ≤ 140737488355328 then
       if 128 = 0 then
        none
       else
        impl_VarText_L4 impl_within k ((wrap64 (Int.tdiv b0 128)), (b1 ++ [(wr .u8 (wrap64 ((Int.tmod b0 128) + 128)))]), ())
      else
       none
    else
     if (((List.length b1 + List.length [(wr .u8 b0)] : Nat) : Int) * ((1 : Nat) : Int)) ≤ 140737488355328 then some ((bstr (b1 ++ [(wr .u8 b0)])), true) else none
def impl_VarText_ (impl_within : Nat → Int × Int × Int → Option (Bool)) (k : Nat) : Int → Option (ByteArray × Bool)
  | a0 =>
  (impl_within k (a0, (0, 1000000000))).bind fun v0 =>
  if v0 = true then
   impl_VarText_L4 impl_within k (a0, ([] : List Int), ())
  else
   some ((⟨#[]⟩ : ByteArray), false)
noncomputable def g_impl_VarText : Int → Option (ByteArray × Bool) := evG (impl_VarText_ (fun _ => g_impl_within))
theorem e_impl_VarText : ∀ x b, g_impl_VarText x = some b → ∃ k, impl_VarText_ (fun _ => g_impl_within) k x = some b := evG_e _
/- impl_numbers -/
def con_impl_numbers (f : Nat → List Int → Option (ByteArray)) : Con := ⟨[.c (.sl (.int .i64))], 1, [.v false [.str]], f⟩
def impl_numbers_L3 (impl_VarText : Nat → Int → Option (ByteArray × Bool)) : Nat → ByteArray × Int × Int × List Int × Unit → Option (ByteArray)
  | 0, _ => none
  | k + 1, (b0, b1, b2, b3, ()) =>
    if b2 < b1 then
     if 0 ≤ b2 then
      if b2 < ((List.length b3 : Nat) : Int) then (impl_VarText k (List.getD b3 (Int.toNat b2) 0)).bind fun v0 =>
       if ((ByteArray.size b0 + ByteArray.size v0.1 : Nat) : Int) ≤ 9223372036854775807 then impl_numbers_L3 impl_VarText k ((b0 ++ v0.1), b1, (wrap64 (b2 + 1)), b3, ()) else none else none
     else
      none
    else
     some b0
def impl_numbers_ (impl_VarText : Nat → Int → Option (ByteArray × Bool)) (k : Nat) : List Int → Option (ByteArray)
  | a0 =>
  impl_numbers_L3 impl_VarText k ((⟨#[]⟩ : ByteArray), ((List.length a0 : Nat) : Int), 0, a0, ())
noncomputable def g_impl_numbers : List Int → Option (ByteArray) := evG (impl_numbers_ (fun _ => g_impl_VarText))
theorem e_impl_numbers : ∀ x b, g_impl_numbers x = some b → ∃ k, impl_numbers_ (fun _ => g_impl_VarText) k x = some b := evG_e _
/- impl_OrderText -/
def con_impl_OrderText (f : Nat → (Int × Int × Int × Int) → Option (ByteArray × Bool)) : Con := ⟨[.agg [.int .i64, .int .i64, .int .i64, .int .i64]], 2, [.v false [.str], .v false [.bool]], f⟩
def impl_OrderText_ (impl_OrderOk : Nat → (Int × Int × Int × Int) → Option (Bool)) (impl_Sealed : Nat → ByteArray → Option (ByteArray × Bool)) (impl_numbers : Nat → List Int → Option (ByteArray)) (k : Nat) : (Int × Int × Int × Int) → Option (ByteArray × Bool)
  | (a0, a1, a2, a3) =>
  (impl_OrderOk k (a0, (a1, (a2, a3)))).bind fun v0 =>
  if v0 = true then
   (impl_numbers k [a1, a2, a3]).bind fun v1 =>
   if ((ByteArray.size (bstr [(wr .u8 a0)]) + ByteArray.size v1 : Nat) : Int) ≤ 9223372036854775807 then (impl_Sealed k ((bstr [(wr .u8 a0)]) ++ v1)).bind fun v2 =>
    some v2 else none
  else
   some ((⟨#[]⟩ : ByteArray), false)
noncomputable def g_impl_OrderText : (Int × Int × Int × Int) → Option (ByteArray × Bool) := impl_OrderText_ (fun _ => g_impl_OrderOk) (fun _ => g_impl_Sealed) (fun _ => g_impl_numbers) 0
theorem e_impl_OrderText : ∀ x b, g_impl_OrderText x = some b → ∃ k, impl_OrderText_ (fun _ => g_impl_OrderOk) (fun _ => g_impl_Sealed) (fun _ => g_impl_numbers) k x = some b := fun x b h => ⟨0, h⟩
/- spec_l02Four -/
def con_spec_l02Four (f : Nat → Int → Option (ByteArray)) : Con := ⟨[.c (.int .u32)], 1, [.v false [.str]], f⟩
def spec_l02Four_ (k : Nat) : Int → Option (ByteArray)
  | a0 =>
  if 0 ≤ 24 then
   if 0 ≤ 16 then
    if 0 ≤ 8 then some (bstr [(wr .u8 (Int.fdiv a0 (2 ^ (min (Int.toNat 24) (IntKind.bits .u32))))), (wr .u8 (Int.fdiv a0 (2 ^ (min (Int.toNat 16) (IntKind.bits .u32))))), (wr .u8 (Int.fdiv a0 (2 ^ (min (Int.toNat 8) (IntKind.bits .u32))))), (wr .u8 a0)]) else none
   else
    none
  else
   none
noncomputable def g_spec_l02Four : Int → Option (ByteArray) := spec_l02Four_  0
theorem e_spec_l02Four : ∀ x b, g_spec_l02Four x = some b → ∃ k, spec_l02Four_  k x = some b := fun x b h => ⟨0, h⟩
/- spec_SumMore -/
def con_spec_SumMore (f : Nat → Int × ByteArray → Option (Int)) : Con := ⟨[.c (.int .u32), .c (.str)], 1, [.v false [.int .u32]], f⟩
mutual
def spec_SumMore_L2 : Nat → Int × ByteArray × Int × Unit → Option (Int)
  | 0, _ => none
  | k + 1, (b0, b1, b2, ()) =>
    if b2 < ((ByteArray.size b1 : Nat) : Int) then
     if 0 ≤ b2 then
      if b2 < ((ByteArray.size b1 : Nat) : Int) then spec_SumMore_L6 k ((ixor .u32 b0 (wr .u32 (byt b1 b2))), b1, b2, 0, ()) else none
     else
      none
    else
     some b0
def spec_SumMore_L6 : Nat → Int × ByteArray × Int × Int × Unit → Option (Int)
  | 0, _ => none
  | k + 1, (b0, b1, b2, b3, ()) =>
    if b3 < 8 then
     if 2 = 0 then
      none
     else
      if 2 = 0 then
       none
      else
       if (Int.tmod b0 2) = 1 then
        spec_SumMore_L6 k ((ixor .u32 (wr .u32 (Int.tdiv b0 2)) 3558460437), b1, b2, (wrap64 (b3 + 1)), ())
       else
        spec_SumMore_L6 k ((wr .u32 (Int.tdiv b0 2)), b1, b2, (wrap64 (b3 + 1)), ())
    else
     spec_SumMore_L2 k (b0, b1, (wrap64 (b2 + 1)), ())
end
def spec_SumMore_ (k : Nat) : Int × ByteArray → Option (Int)
  | (a0, a1) =>
  spec_SumMore_L2 k (a0, a1, 0, ())
noncomputable def g_spec_SumMore : Int × ByteArray → Option (Int) := evG (spec_SumMore_ )
theorem e_spec_SumMore : ∀ x b, g_spec_SumMore x = some b → ∃ k, spec_SumMore_  k x = some b := evG_e _
/- spec_SumOf -/
def con_spec_SumOf (f : Nat → ByteArray → Option (Int)) : Con := ⟨[.c (.str)], 1, [.v false [.int .u32]], f⟩
def spec_SumOf_ (spec_SumMore : Nat → Int × ByteArray → Option (Int)) (k : Nat) : ByteArray → Option (Int)
  | a0 =>
  (spec_SumMore k (4294967295, a0)).bind fun v0 =>
  some v0
noncomputable def g_spec_SumOf : ByteArray → Option (Int) := spec_SumOf_ (fun _ => g_spec_SumMore) 0
theorem e_spec_SumOf : ∀ x b, g_spec_SumOf x = some b → ∃ k, spec_SumOf_ (fun _ => g_spec_SumMore) k x = some b := fun x b h => ⟨0, h⟩
/- spec_Sealed -/
def con_spec_Sealed (f : Nat → ByteArray → Option (ByteArray × Bool)) : Con := ⟨[.c (.str)], 2, [.v false [.str], .v false [.bool]], f⟩
def spec_Sealed_ (spec_SumOf : Nat → ByteArray → Option (Int)) (spec_l02Four : Nat → Int → Option (ByteArray)) (k : Nat) : ByteArray → Option (ByteArray × Bool)
  | a0 =>
  if 20000 < ((ByteArray.size a0 : Nat) : Int) then
   some ((⟨#[]⟩ : ByteArray), false)
  else
   (spec_SumOf k a0).bind fun v0 =>
   (spec_l02Four k v0).bind fun v1 =>
   if ((ByteArray.size a0 + ByteArray.size v1 : Nat) : Int) ≤ 9223372036854775807 then some ((a0 ++ v1), true) else none
noncomputable def g_spec_Sealed : ByteArray → Option (ByteArray × Bool) := spec_Sealed_ (fun _ => g_spec_SumOf) (fun _ => g_spec_l02Four) 0
theorem e_spec_Sealed : ∀ x b, g_spec_Sealed x = some b → ∃ k, spec_Sealed_ (fun _ => g_spec_SumOf) (fun _ => g_spec_l02Four) k x = some b := fun x b h => ⟨0, h⟩
/- spec_l01Var -/
def con_spec_l01Var (f : Nat → Int → Option (ByteArray)) : Con := ⟨[.c (.int .i64)], 1, [.v false [.str]], f⟩
def spec_l01Var_L2 : Nat → Int × List Int × Unit → Option (ByteArray)
  | 0, _ => none
  | k + 1, (b0, b1, ()) =>
    if 127 < b0 then
     if 128 = 0 then
      none
     else
      if (((List.length b1 + List.length [(wr .u8 (wrap64 ((Int.tmod b0 128) + 128)))] : Nat) : Int) * ((1 : Nat) : Int)) ≤ 140737488355328 then
       if 128 = 0 then
        none
       else
        spec_l01Var_L2 k ((wrap64 (Int.tdiv b0 128)), (b1 ++ [(wr .u8 (wrap64 ((Int.tmod b0 128) + 128)))]), ())
      else
       none
    else
     if (((List.length b1 + List.length [(wr .u8 b0)] : Nat) : Int) * ((1 : Nat) : Int)) ≤ 140737488355328 then some (bstr (b1 ++ [(wr .u8 b0)])) else none
def spec_l01Var_ (k : Nat) : Int → Option (ByteArray)
  | a0 =>
  spec_l01Var_L2 k (a0, ([] : List Int), ())
noncomputable def g_spec_l01Var : Int → Option (ByteArray) := evG (spec_l01Var_ )
theorem e_spec_l01Var : ∀ x b, g_spec_l01Var x = some b → ∃ k, spec_l01Var_  k x = some b := evG_e _
/- spec_l01In -/
def con_spec_l01In (f : Nat → Int × Int × Int → Option (Bool)) : Con := ⟨[.c (.int .i64), .c (.int .i64), .c (.int .i64)], 1, [.v false [.bool]], f⟩
def spec_l01In_ (k : Nat) : Int × Int × Int → Option (Bool)
  | (a0, a1, a2) =>
  if a1 ≤ a0 then
   some (decide (a0 ≤ a2))
  else
   some false
noncomputable def g_spec_l01In : Int × Int × Int → Option (Bool) := spec_l01In_  0
theorem e_spec_l01In : ∀ x b, g_spec_l01In x = some b → ∃ k, spec_l01In_  k x = some b := fun x b h => ⟨0, h⟩
/- spec_OrderOk -/
def con_spec_OrderOk (f : Nat → (Int × Int × Int × Int) → Option (Bool)) : Con := ⟨[.agg [.int .i64, .int .i64, .int .i64, .int .i64]], 1, [.v false [.bool]], f⟩
def spec_OrderOk_ (spec_l01In : Nat → Int × Int × Int → Option (Bool)) (k : Nat) : (Int × Int × Int × Int) → Option (Bool)
  | (a0, a1, a2, a3) =>
  if a0 = 1 then
   (spec_l01In k (a2, (1, 1000))).bind fun v0 =>
   if v0 = true then
    (spec_l01In k (a1, (1, 1000))).bind fun v1 =>
    if v1 = true then
     if a1 ≤ (wrap64 (3 * a2)) then
      (spec_l01In k (a3, (1, 5000))).bind fun v2 =>
      some v2
     else
      some false
    else
     some false
   else
    some false
  else
   if a0 = 2 then
    (spec_l01In k (a3, (1, 100))).bind fun v3 =>
    if v3 = true then
     if a1 = 0 then
      some (decide (a2 = 0))
     else
      some false
    else
     some false
   else
    (spec_l01In k (a0, (3, 6))).bind fun v4 =>
    if v4 = true then
     if a1 = 0 then
      if a2 = 0 then
       some (decide (a3 = 0))
      else
       some false
     else
      some false
    else
     some false
noncomputable def g_spec_OrderOk : (Int × Int × Int × Int) → Option (Bool) := spec_OrderOk_ (fun _ => g_spec_l01In) 0
theorem e_spec_OrderOk : ∀ x b, g_spec_OrderOk x = some b → ∃ k, spec_OrderOk_ (fun _ => g_spec_l01In) k x = some b := fun x b h => ⟨0, h⟩
/- spec_OrderText -/
def con_spec_OrderText (f : Nat → (Int × Int × Int × Int) → Option (ByteArray × Bool)) : Con := ⟨[.agg [.int .i64, .int .i64, .int .i64, .int .i64]], 2, [.v false [.str], .v false [.bool]], f⟩
def spec_OrderText_ (spec_OrderOk : Nat → (Int × Int × Int × Int) → Option (Bool)) (spec_Sealed : Nat → ByteArray → Option (ByteArray × Bool)) (spec_l01Var : Nat → Int → Option (ByteArray)) (k : Nat) : (Int × Int × Int × Int) → Option (ByteArray × Bool)
  | (a0, a1, a2, a3) =>
  (spec_OrderOk k (a0, (a1, (a2, a3)))).bind fun v0 =>
  if v0 = true then
   (spec_l01Var k a1).bind fun v1 =>
   (spec_l01Var k a2).bind fun v2 =>
   (spec_l01Var k a3).bind fun v3 =>
   if ((ByteArray.size (bstr [(wr .u8 a0)]) + ByteArray.size v1 : Nat) : Int) ≤ 9223372036854775807 then
    if ((ByteArray.size ((bstr [(wr .u8 a0)]) ++ v1) + ByteArray.size v2 : Nat) : Int) ≤ 9223372036854775807 then
     if ((ByteArray.size (((bstr [(wr .u8 a0)]) ++ v1) ++ v2) + ByteArray.size v3 : Nat) : Int) ≤ 9223372036854775807 then (spec_Sealed k ((((bstr [(wr .u8 a0)]) ++ v1) ++ v2) ++ v3)).bind fun v4 =>
      some v4 else none
    else
     none
   else
    none
  else
   some ((⟨#[]⟩ : ByteArray), false)
noncomputable def g_spec_OrderText : (Int × Int × Int × Int) → Option (ByteArray × Bool) := spec_OrderText_ (fun _ => g_spec_OrderOk) (fun _ => g_spec_Sealed) (fun _ => g_spec_l01Var) 0
theorem e_spec_OrderText : ∀ x b, g_spec_OrderText x = some b → ∃ k, spec_OrderText_ (fun _ => g_spec_OrderOk) (fun _ => g_spec_Sealed) (fun _ => g_spec_l01Var) k x = some b := fun x b h => ⟨0, h⟩
/- spec_ReadVar -/
def con_spec_ReadVar (f : Nat → ByteArray × Int → Option (Int × Int × Bool)) : Con := ⟨[.c (.str), .c (.int .i64)], 3, [.v false [.int .i64], .v false [.int .i64], .v false [.bool]], f⟩
def spec_ReadVar_L6 (spec_l01In : Nat → Int × Int × Int → Option (Bool)) (spec_l01Var : Nat → Int → Option (ByteArray)) : Nat → ByteArray × Int × Int × Int × Int × Unit → Option (Int × Int × Bool)
  | 0, _ => none
  | k + 1, (b0, b1, b2, b3, b4, ()) =>
    if b4 < ((ByteArray.size b0 : Nat) : Int) then
     if b4 < (wrap64 (b1 + 5)) then
      if 0 ≤ b4 then
       if b4 < ((ByteArray.size b0 : Nat) : Int) then
        if 128 = 0 then
         none
        else
         if 0 ≤ b4 then
          if b4 < ((ByteArray.size b0 : Nat) : Int) then
           if (byt b0 b4) < 128 then
            if 1000000000 < (wrap64 (b2 + (wrap64 ((Int.tmod (wrap64 (byt b0 b4)) 128) * b3)))) then
             some (0, (0, false))
            else
             if 0 ≤ (wrap64 (b4 + 1)) then
              if (wrap64 (b4 + 1)) ≤ ((ByteArray.size b0 : Nat) : Int) then
               if 0 ≤ b1 then
                if b1 ≤ (wrap64 (b4 + 1)) then (spec_l01Var k (wrap64 (b2 + (wrap64 ((Int.tmod (wrap64 (byt b0 b4)) 128) * b3))))).bind fun v0 =>
                 if v0 = (ByteArray.extract b0 (Int.toNat b1) (Int.toNat (wrap64 (b4 + 1)))) then
                  some ((wrap64 (b2 + (wrap64 ((Int.tmod (wrap64 (byt b0 b4)) 128) * b3)))), ((wrap64 (b4 + 1)), true))
                 else
                  some (0, (0, false)) else none
               else
                none
              else
               none
             else
              none
           else
            spec_ReadVar_L6 spec_l01In spec_l01Var k (b0, b1, (wrap64 (b2 + (wrap64 ((Int.tmod (wrap64 (byt b0 b4)) 128) * b3)))), (wrap64 (b3 * 128)), (wrap64 (b4 + 1)), ())
          else
           none
         else
          none
       else
        none
      else
       none
     else
      some (0, (0, false))
    else
     some (0, (0, false))
def spec_ReadVar_ (spec_l01In : Nat → Int × Int × Int → Option (Bool)) (spec_l01Var : Nat → Int → Option (ByteArray)) (k : Nat) : ByteArray × Int → Option (Int × Int × Bool)
  | (a0, a1) =>
  (spec_l01In k (a1, (0, ((ByteArray.size a0 : Nat) : Int)))).bind fun v0 =>
  if v0 = true then
   spec_ReadVar_L6 spec_l01In spec_l01Var k (a0, a1, 0, 1, a1, ())
  else
   some (0, (0, false))
noncomputable def g_spec_ReadVar : ByteArray × Int → Option (Int × Int × Bool) := evG (spec_ReadVar_ (fun _ => g_spec_l01In) (fun _ => g_spec_l01Var))
theorem e_spec_ReadVar : ∀ x b, g_spec_ReadVar x = some b → ∃ k, spec_ReadVar_ (fun _ => g_spec_l01In) (fun _ => g_spec_l01Var) k x = some b := evG_e _
/- spec_l11Var -/
def con_spec_l11Var (f : Nat → (ByteArray × Int × Bool) → Option (Int × (ByteArray × Int × Bool))) : Con := ⟨[.ptr [.str, .int .i64, .bool] 105], 1, [.v false [.int .i64], .box [.str, .int .i64, .bool] 105], f⟩
def spec_l11Var_ (spec_ReadVar : Nat → ByteArray × Int → Option (Int × Int × Bool)) (k : Nat) : (ByteArray × Int × Bool) → Option (Int × (ByteArray × Int × Bool))
  | (a0, a1, a2) =>
  (spec_ReadVar k (a0, a1)).bind fun v0 =>
  if a2 = true then
   some (0, (a0, (a1, true)))
  else
   if v0.2.2 = true then
    some (v0.1, (a0, (v0.2.1, a2)))
   else
    some (0, (a0, (a1, true)))
noncomputable def g_spec_l11Var : (ByteArray × Int × Bool) → Option (Int × (ByteArray × Int × Bool)) := spec_l11Var_ (fun _ => g_spec_ReadVar) 0
theorem e_spec_l11Var : ∀ x b, g_spec_l11Var x = some b → ∃ k, spec_l11Var_ (fun _ => g_spec_ReadVar) k x = some b := fun x b h => ⟨0, h⟩
/- spec_Unsealed -/
def con_spec_Unsealed (f : Nat → ByteArray → Option (ByteArray × Bool)) : Con := ⟨[.c (.str)], 2, [.v false [.str], .v false [.bool]], f⟩
def spec_Unsealed_ (spec_SumOf : Nat → ByteArray → Option (Int)) (spec_l02Four : Nat → Int → Option (ByteArray)) (k : Nat) : ByteArray → Option (ByteArray × Bool)
  | a0 =>
  if (wrap64 (((ByteArray.size a0 : Nat) : Int) - 4)) < 0 then
   some ((⟨#[]⟩ : ByteArray), false)
  else
   if 20000 < (wrap64 (((ByteArray.size a0 : Nat) : Int) - 4)) then
    some ((⟨#[]⟩ : ByteArray), false)
   else
    if 0 ≤ (wrap64 (((ByteArray.size a0 : Nat) : Int) - 4)) then
     if (wrap64 (((ByteArray.size a0 : Nat) : Int) - 4)) ≤ ((ByteArray.size a0 : Nat) : Int) then
      if 0 ≤ (wrap64 (((ByteArray.size a0 : Nat) : Int) - 4)) then
       if (wrap64 (((ByteArray.size a0 : Nat) : Int) - 4)) ≤ ((ByteArray.size a0 : Nat) : Int) then (spec_SumOf k (ByteArray.extract a0 (Int.toNat 0) (Int.toNat (wrap64 (((ByteArray.size a0 : Nat) : Int) - 4))))).bind fun v0 =>
        (spec_l02Four k v0).bind fun v1 =>
        if (ByteArray.extract a0 (Int.toNat (wrap64 (((ByteArray.size a0 : Nat) : Int) - 4))) (Int.toNat ((ByteArray.size a0 : Nat) : Int))) = v1 then
         if 0 ≤ (wrap64 (((ByteArray.size a0 : Nat) : Int) - 4)) then
          if (wrap64 (((ByteArray.size a0 : Nat) : Int) - 4)) ≤ ((ByteArray.size a0 : Nat) : Int) then some ((ByteArray.extract a0 (Int.toNat 0) (Int.toNat (wrap64 (((ByteArray.size a0 : Nat) : Int) - 4)))), true) else none
         else
          none
        else
         some ((⟨#[]⟩ : ByteArray), false) else none
      else
       none
     else
      none
    else
     none
noncomputable def g_spec_Unsealed : ByteArray → Option (ByteArray × Bool) := spec_Unsealed_ (fun _ => g_spec_SumOf) (fun _ => g_spec_l02Four) 0
theorem e_spec_Unsealed : ∀ x b, g_spec_Unsealed x = some b → ∃ k, spec_Unsealed_ (fun _ => g_spec_SumOf) (fun _ => g_spec_l02Four) k x = some b := fun x b h => ⟨0, h⟩
/- spec_ReadOrder -/
def con_spec_ReadOrder (f : Nat → ByteArray → Option ((Int × Int × Int × Int) × Bool)) : Con := ⟨[.c (.str)], 2, [.v true [.int .i64, .int .i64, .int .i64, .int .i64], .v false [.bool]], f⟩
def spec_ReadOrder_ (spec_OrderText : Nat → (Int × Int × Int × Int) → Option (ByteArray × Bool)) (spec_Unsealed : Nat → ByteArray → Option (ByteArray × Bool)) (spec_l11Var : Nat → (ByteArray × Int × Bool) → Option (Int × (ByteArray × Int × Bool))) (k : Nat) : ByteArray → Option ((Int × Int × Int × Int) × Bool)
  | a0 =>
  (spec_Unsealed k a0).bind fun v0 =>
  if v0.2 = true then
   if ((ByteArray.size v0.1 : Nat) : Int) < 1 then
    some ((0, (0, (0, 0))), false)
   else
    if 0 ≤ 0 then
     if 0 < ((ByteArray.size v0.1 : Nat) : Int) then (spec_l11Var k (v0.1, (1, false))).bind fun v1 =>
      (spec_l11Var k v1.2).bind fun v2 =>
      (spec_l11Var k v2.2).bind fun v3 =>
      (spec_OrderText k ((wrap64 (byt v0.1 0)), (v1.1, (v2.1, v3.1)))).bind fun v4 =>
      if v3.2.2.2 = true then
       some ((0, (0, (0, 0))), false)
      else
       if v4.2 = true then
        if v4.1 = a0 then
         some (((wrap64 (byt v0.1 0)), (v1.1, (v2.1, v3.1))), true)
        else
         some ((0, (0, (0, 0))), false)
       else
        some ((0, (0, (0, 0))), false) else none
    else
     none
  else
   some ((0, (0, (0, 0))), false)
noncomputable def g_spec_ReadOrder : ByteArray → Option ((Int × Int × Int × Int) × Bool) := spec_ReadOrder_ (fun _ => g_spec_OrderText) (fun _ => g_spec_Unsealed) (fun _ => g_spec_l11Var) 0
theorem e_spec_ReadOrder : ∀ x b, g_spec_ReadOrder x = some b → ∃ k, spec_ReadOrder_ (fun _ => g_spec_OrderText) (fun _ => g_spec_Unsealed) (fun _ => g_spec_l11Var) k x = some b := fun x b h => ⟨0, h⟩
/- spec_l01Text -/
def con_spec_l01Text (f : Nat → (List Int × Int × Int) × Int → Option (ByteArray × (Unit × Int × Int))) : Con := ⟨[.ptr [.sl (.int .u8), .int .i64, .int .i64] 155, .c (.int .i64)], 1, [.v false [.str], .box [.keep, .int .i64, .int .i64] 155], f⟩
def spec_l01Text_L5 (spec_l01Byte : Nat → (List Int × Int × Int) → Option (Int × (Unit × Int × Int))) : Nat → Int × Int × Int × Int × List Int × List Int × Unit → Option (ByteArray × (Unit × Int × Int))
  | 0, _ => none
  | k + 1, (b0, b1, b2, b3, b4, b5, ()) =>
    if b1 < b0 then
     (spec_l01Byte k (b4, (b2, b3))).bind fun v0 =>
     if (((List.length b5 + List.length [(wr .u8 v0.1)] : Nat) : Int) * ((1 : Nat) : Int)) ≤ 140737488355328 then spec_l01Text_L5 spec_l01Byte k (b0, (wrap64 (b1 + 1)), v0.2.2.1, v0.2.2.2, b4, (b5 ++ [(wr .u8 v0.1)]), ()) else none
    else
     some ((bstr b5), ((), (b2, b3)))
def spec_l01Text_ (spec_l01Byte : Nat → (List Int × Int × Int) → Option (Int × (Unit × Int × Int))) (k : Nat) : (List Int × Int × Int) × Int → Option (ByteArray × (Unit × Int × Int))
  | ((a0, a1, a2), a3) =>
  if 5000 < a3 then
   spec_l01Text_L5 spec_l01Byte k (5000, 0, a1, a2, a0, ([] : List Int), ())
  else
   spec_l01Text_L5 spec_l01Byte k (a3, 0, a1, a2, a0, ([] : List Int), ())
noncomputable def g_spec_l01Text : (List Int × Int × Int) × Int → Option (ByteArray × (Unit × Int × Int)) := evG (spec_l01Text_ (fun _ => g_spec_l01Byte))
theorem e_spec_l01Text : ∀ x b, g_spec_l01Text x = some b → ∃ k, spec_l01Text_ (fun _ => g_spec_l01Byte) k x = some b := evG_e _
/- spec_l02Spoilt -/
def con_spec_l02Spoilt (f : Nat → (List Int × Int × Int) × ByteArray → Option (ByteArray × (Unit × Int × Int))) : Con := ⟨[.ptr [.sl (.int .u8), .int .i64, .int .i64] 155, .c (.str)], 1, [.v false [.str], .box [.keep, .int .i64, .int .i64] 155], f⟩
def spec_l02Spoilt_ (spec_l01Below : Nat → (List Int × Int × Int) × Int → Option (Int × (Unit × Int × Int))) (spec_l01Text : Nat → (List Int × Int × Int) × Int → Option (ByteArray × (Unit × Int × Int))) (k : Nat) : (List Int × Int × Int) × ByteArray → Option (ByteArray × (Unit × Int × Int))
  | ((a0, a1, a2), a3) =>
  (spec_l01Below k ((a0, (a1, a2)), 12)).bind fun v0 =>
  if v0.1 = 0 then
   (spec_l01Text k ((a0, v0.2.2), 1)).bind fun v1 =>
   if ((ByteArray.size a3 + ByteArray.size v1.1 : Nat) : Int) ≤ 9223372036854775807 then some ((a3 ++ v1.1), ((), v1.2.2)) else none
  else
   if v0.1 = 1 then
    (spec_l01Below k ((a0, v0.2.2), (wrap64 (((ByteArray.size a3 : Nat) : Int) + 1)))).bind fun v2 =>
    if 0 ≤ v2.1 then
     if v2.1 ≤ ((ByteArray.size a3 : Nat) : Int) then some ((ByteArray.extract a3 (Int.toNat 0) (Int.toNat v2.1)), ((), v2.2.2)) else none
    else
     none
   else
    if v0.1 = 2 then
     if v0.1 = 2 then
      if 0 < ((ByteArray.size a3 : Nat) : Int) then
       (spec_l01Below k ((a0, v0.2.2), ((ByteArray.size a3 : Nat) : Int))).bind fun v3 =>
       if 0 ≤ v3.1 then
        if v3.1 ≤ ((ByteArray.size a3 : Nat) : Int) then
         if 0 ≤ (wrap64 (v3.1 + 1)) then
          if (wrap64 (v3.1 + 1)) ≤ ((ByteArray.size a3 : Nat) : Int) then (spec_l01Text k ((a0, v3.2.2), 1)).bind fun v4 =>
           if ((ByteArray.size (ByteArray.extract a3 (Int.toNat 0) (Int.toNat v3.1)) + ByteArray.size v4.1 : Nat) : Int) ≤ 9223372036854775807 then
            if ((ByteArray.size ((ByteArray.extract a3 (Int.toNat 0) (Int.toNat v3.1)) ++ v4.1) + ByteArray.size (ByteArray.extract a3 (Int.toNat (wrap64 (v3.1 + 1))) (Int.toNat ((ByteArray.size a3 : Nat) : Int))) : Nat) : Int) ≤ 9223372036854775807 then some ((((ByteArray.extract a3 (Int.toNat 0) (Int.toNat v3.1)) ++ v4.1) ++ (ByteArray.extract a3 (Int.toNat (wrap64 (v3.1 + 1))) (Int.toNat ((ByteArray.size a3 : Nat) : Int)))), ((), v4.2.2)) else none
           else
            none else none
         else
          none
        else
         none
       else
        none
      else
       some (a3, ((), v0.2.2))
     else
      some (a3, ((), v0.2.2))
    else
     if v0.1 = 3 then
      if 0 < ((ByteArray.size a3 : Nat) : Int) then
       (spec_l01Below k ((a0, v0.2.2), ((ByteArray.size a3 : Nat) : Int))).bind fun v5 =>
       if 0 ≤ v5.1 then
        if v5.1 ≤ ((ByteArray.size a3 : Nat) : Int) then
         if 0 ≤ (wrap64 (v5.1 + 1)) then
          if (wrap64 (v5.1 + 1)) ≤ ((ByteArray.size a3 : Nat) : Int) then (spec_l01Text k ((a0, v5.2.2), 1)).bind fun v6 =>
           if ((ByteArray.size (ByteArray.extract a3 (Int.toNat 0) (Int.toNat v5.1)) + ByteArray.size v6.1 : Nat) : Int) ≤ 9223372036854775807 then
            if ((ByteArray.size ((ByteArray.extract a3 (Int.toNat 0) (Int.toNat v5.1)) ++ v6.1) + ByteArray.size (ByteArray.extract a3 (Int.toNat (wrap64 (v5.1 + 1))) (Int.toNat ((ByteArray.size a3 : Nat) : Int))) : Nat) : Int) ≤ 9223372036854775807 then some ((((ByteArray.extract a3 (Int.toNat 0) (Int.toNat v5.1)) ++ v6.1) ++ (ByteArray.extract a3 (Int.toNat (wrap64 (v5.1 + 1))) (Int.toNat ((ByteArray.size a3 : Nat) : Int)))), ((), v6.2.2)) else none
           else
            none else none
         else
          none
        else
         none
       else
        none
      else
       some (a3, ((), v0.2.2))
     else
      some (a3, ((), v0.2.2))
noncomputable def g_spec_l02Spoilt : (List Int × Int × Int) × ByteArray → Option (ByteArray × (Unit × Int × Int)) := spec_l02Spoilt_ (fun _ => g_spec_l01Below) (fun _ => g_spec_l01Text) 0
theorem e_spec_l02Spoilt : ∀ x b, g_spec_l02Spoilt x = some b → ∃ k, spec_l02Spoilt_ (fun _ => g_spec_l01Below) (fun _ => g_spec_l01Text) k x = some b := fun x b h => ⟨0, h⟩
/- spec_l01Once -/
def con_spec_l01Once (f : Nat → (List Int × Int × Int) × Int → Option (Bool × (Unit × Int × Int))) : Con := ⟨[.ptr [.sl (.int .u8), .int .i64, .int .i64] 155, .c (.int .i64)], 1, [.v false [.bool], .box [.keep, .int .i64, .int .i64] 155], f⟩
def spec_l01Once_ (spec_l01Below : Nat → (List Int × Int × Int) × Int → Option (Int × (Unit × Int × Int))) (k : Nat) : (List Int × Int × Int) × Int → Option (Bool × (Unit × Int × Int))
  | ((a0, a1, a2), a3) =>
  (spec_l01Below k ((a0, (a1, a2)), a3)).bind fun v0 =>
  some ((decide (v0.1 = 0)), ((), v0.2.2))
noncomputable def g_spec_l01Once : (List Int × Int × Int) × Int → Option (Bool × (Unit × Int × Int)) := spec_l01Once_ (fun _ => g_spec_l01Below) 0
theorem e_spec_l01Once : ∀ x b, g_spec_l01Once x = some b → ∃ k, spec_l01Once_ (fun _ => g_spec_l01Below) k x = some b := fun x b h => ⟨0, h⟩
/- spec_l01PickInt -/
def con_spec_l01PickInt (f : Nat → (List Int × Int × Int) × List Int → Option (Int × (Unit × Int × Int))) : Con := ⟨[.ptr [.sl (.int .u8), .int .i64, .int .i64] 155, .c (.sl (.int .i64))], 1, [.v false [.int .i64], .box [.keep, .int .i64, .int .i64] 155], f⟩
def spec_l01PickInt_ (spec_l01Below : Nat → (List Int × Int × Int) × Int → Option (Int × (Unit × Int × Int))) (k : Nat) : (List Int × Int × Int) × List Int → Option (Int × (Unit × Int × Int))
  | ((a0, a1, a2), a3) =>
  (spec_l01Below k ((a0, (a1, a2)), ((List.length a3 : Nat) : Int))).bind fun v0 =>
  if 0 ≤ v0.1 then
   if v0.1 < ((List.length a3 : Nat) : Int) then some ((List.getD a3 (Int.toNat v0.1) 0), ((), v0.2.2)) else none
  else
   none
noncomputable def g_spec_l01PickInt : (List Int × Int × Int) × List Int → Option (Int × (Unit × Int × Int)) := spec_l01PickInt_ (fun _ => g_spec_l01Below) 0
theorem e_spec_l01PickInt : ∀ x b, g_spec_l01PickInt x = some b → ∃ k, spec_l01PickInt_ (fun _ => g_spec_l01Below) k x = some b := fun x b h => ⟨0, h⟩
/- spec_l14Order -/
def con_spec_l14Order (f : Nat → (List Int × Int × Int) → Option ((Int × Int × Int × Int) × (Unit × Int × Int))) : Con := ⟨[.ptr [.sl (.int .u8), .int .i64, .int .i64] 155], 1, [.v true [.int .i64, .int .i64, .int .i64, .int .i64], .box [.keep, .int .i64, .int .i64] 155], f⟩
def spec_l14Order_ (spec_l01Below : Nat → (List Int × Int × Int) × Int → Option (Int × (Unit × Int × Int))) (spec_l01PickInt : Nat → (List Int × Int × Int) × List Int → Option (Int × (Unit × Int × Int))) (k : Nat) : (List Int × Int × Int) → Option ((Int × Int × Int × Int) × (Unit × Int × Int))
  | (a0, a1, a2) =>
  (spec_l01PickInt k ((a0, (a1, a2)), [1, 1, 1, 2, 2, 3, 4, 5, 6])).bind fun v0 =>
  if v0.1 = 1 then
   (spec_l01Below k ((a0, v0.2.2), 9)).bind fun v1 =>
   (spec_l01Below k ((a0, v1.2.2), (wrap64 (3 * (wrap64 (1 + v1.1)))))).bind fun v2 =>
   (spec_l01Below k ((a0, v2.2.2), 60)).bind fun v3 =>
   some ((v0.1, ((wrap64 (1 + v2.1)), ((wrap64 (1 + v1.1)), (wrap64 (1 + v3.1))))), ((), v3.2.2))
  else
   if v0.1 = 2 then
    (spec_l01Below k ((a0, v0.2.2), 40)).bind fun v4 =>
    some ((v0.1, (0, (0, (wrap64 (1 + v4.1))))), ((), v4.2.2))
   else
    some ((v0.1, (0, (0, 0))), ((), v0.2.2))
noncomputable def g_spec_l14Order : (List Int × Int × Int) → Option ((Int × Int × Int × Int) × (Unit × Int × Int)) := spec_l14Order_ (fun _ => g_spec_l01Below) (fun _ => g_spec_l01PickInt) 0
theorem e_spec_l14Order : ∀ x b, g_spec_l14Order x = some b → ∃ k, spec_l14Order_ (fun _ => g_spec_l01Below) (fun _ => g_spec_l01PickInt) k x = some b := fun x b h => ⟨0, h⟩
/- spec_l14Any -/
def con_spec_l14Any (f : Nat → (List Int × Int × Int) → Option ((Int × Int × Int × Int) × (Unit × Int × Int))) : Con := ⟨[.ptr [.sl (.int .u8), .int .i64, .int .i64] 155], 1, [.v true [.int .i64, .int .i64, .int .i64, .int .i64], .box [.keep, .int .i64, .int .i64] 155], f⟩
def spec_l14Any_ (spec_l01Below : Nat → (List Int × Int × Int) × Int → Option (Int × (Unit × Int × Int))) (spec_l01PickInt : Nat → (List Int × Int × Int) × List Int → Option (Int × (Unit × Int × Int))) (spec_l14Order : Nat → (List Int × Int × Int) → Option ((Int × Int × Int × Int) × (Unit × Int × Int))) (k : Nat) : (List Int × Int × Int) → Option ((Int × Int × Int × Int) × (Unit × Int × Int))
  | (a0, a1, a2) =>
  (spec_l14Order k (a0, (a1, a2))).bind fun v0 =>
  (spec_l01Below k ((a0, v0.2.2), 12)).bind fun v1 =>
  if v1.1 = 0 then
   (spec_l01Below k ((a0, v1.2.2), 8)).bind fun v2 =>
   some ((v2.1, v0.1.2), ((), v2.2.2))
  else
   if v1.1 = 1 then
    (spec_l01PickInt k ((a0, v1.2.2), [(-1), 0, 1, 1000, 1001])).bind fun v3 =>
    some ((v0.1.1, (v3.1, v0.1.2.2)), ((), v3.2.2))
   else
    if v1.1 = 2 then
     (spec_l01PickInt k ((a0, v1.2.2), [0, 1, 1000, 1001])).bind fun v4 =>
     some ((v0.1.1, (v0.1.2.1, (v4.1, v0.1.2.2.2))), ((), v4.2.2))
    else
     if v1.1 = 3 then
      (spec_l01PickInt k ((a0, v1.2.2), [0, 1, 100, 101, 5000, 5001])).bind fun v5 =>
      some ((v0.1.1, (v0.1.2.1, (v0.1.2.2.1, v5.1))), ((), v5.2.2))
     else
      some (v0.1, ((), v1.2.2))
noncomputable def g_spec_l14Any : (List Int × Int × Int) → Option ((Int × Int × Int × Int) × (Unit × Int × Int)) := spec_l14Any_ (fun _ => g_spec_l01Below) (fun _ => g_spec_l01PickInt) (fun _ => g_spec_l14Order) 0
theorem e_spec_l14Any : ∀ x b, g_spec_l14Any x = some b → ∃ k, spec_l14Any_ (fun _ => g_spec_l01Below) (fun _ => g_spec_l01PickInt) (fun _ => g_spec_l14Order) k x = some b := fun x b h => ⟨0, h⟩
/- spec_DrawReadOrder -/
def con_spec_DrawReadOrder (f : Nat → List Int → Option (ByteArray)) : Con := ⟨[.c (.sl (.int .u8))], 1, [.v false [.str]], f⟩
def spec_DrawReadOrder_ (spec_OrderText : Nat → (Int × Int × Int × Int) → Option (ByteArray × Bool)) (spec_Sealed : Nat → ByteArray → Option (ByteArray × Bool)) (spec_Unsealed : Nat → ByteArray → Option (ByteArray × Bool)) (spec_l01New : Nat → List Int → Option ((Unit × Int × Int))) (spec_l01Once : Nat → (List Int × Int × Int) × Int → Option (Bool × (Unit × Int × Int))) (spec_l02Spoilt : Nat → (List Int × Int × Int) × ByteArray → Option (ByteArray × (Unit × Int × Int))) (spec_l14Any : Nat → (List Int × Int × Int) → Option ((Int × Int × Int × Int) × (Unit × Int × Int))) (k : Nat) : List Int → Option (ByteArray)
  | a0 =>
  (spec_l01New k a0).bind fun v0 =>
  (spec_l14Any k (a0, v0.2)).bind fun v1 =>
  (spec_OrderText k v1.1).bind fun v2 =>
  (spec_l01Once k ((a0, v1.2.2), 3)).bind fun v3 =>
  if v3.1 = true then
   (spec_Unsealed k v2.1).bind fun v4 =>
   if v4.2 = true then
    (spec_l02Spoilt k ((a0, v3.2.2), v4.1)).bind fun v5 =>
    (spec_Sealed k v5.1).bind fun v6 =>
    some v6.1
   else
    some v2.1
  else
   (spec_l02Spoilt k ((a0, v3.2.2), v2.1)).bind fun v7 =>
   some v7.1
noncomputable def g_spec_DrawReadOrder : List Int → Option (ByteArray) := spec_DrawReadOrder_ (fun _ => g_spec_OrderText) (fun _ => g_spec_Sealed) (fun _ => g_spec_Unsealed) (fun _ => g_spec_l01New) (fun _ => g_spec_l01Once) (fun _ => g_spec_l02Spoilt) (fun _ => g_spec_l14Any) 0
theorem e_spec_DrawReadOrder : ∀ x b, g_spec_DrawReadOrder x = some b → ∃ k, spec_DrawReadOrder_ (fun _ => g_spec_OrderText) (fun _ => g_spec_Sealed) (fun _ => g_spec_Unsealed) (fun _ => g_spec_l01New) (fun _ => g_spec_l01Once) (fun _ => g_spec_l02Spoilt) (fun _ => g_spec_l14Any) k x = some b := fun x b h => ⟨0, h⟩
/- spec_DrawOrderText -/
def con_spec_DrawOrderText (f : Nat → List Int → Option ((Int × Int × Int × Int))) : Con := ⟨[.c (.sl (.int .u8))], 1, [.v true [.int .i64, .int .i64, .int .i64, .int .i64]], f⟩
def spec_DrawOrderText_ (spec_l01New : Nat → List Int → Option ((Unit × Int × Int))) (spec_l14Any : Nat → (List Int × Int × Int) → Option ((Int × Int × Int × Int) × (Unit × Int × Int))) (k : Nat) : List Int → Option ((Int × Int × Int × Int))
  | a0 =>
  (spec_l01New k a0).bind fun v0 =>
  (spec_l14Any k (a0, v0.2)).bind fun v1 =>
  some v1.1
noncomputable def g_spec_DrawOrderText : List Int → Option ((Int × Int × Int × Int)) := spec_DrawOrderText_ (fun _ => g_spec_l01New) (fun _ => g_spec_l14Any) 0
theorem e_spec_DrawOrderText : ∀ x b, g_spec_DrawOrderText x = some b → ∃ k, spec_DrawOrderText_ (fun _ => g_spec_l01New) (fun _ => g_spec_l14Any) k x = some b := fun x b h => ⟨0, h⟩
/- laws_big -/
def con_laws_big (f : Nat → List Int → Option (Bool)) : Con := ⟨[.c (.sl (.int .u8))], 1, [.v false [.bool]], f⟩
def laws_big_ (k : Nat) : List Int → Option (Bool)
  | a0 =>
  some (decide (1048576 < ((List.length a0 : Nat) : Int)))
noncomputable def g_laws_big : List Int → Option (Bool) := laws_big_  0
theorem e_laws_big : ∀ x b, g_laws_big x = some b → ∃ k, laws_big_  k x = some b := fun x b h => ⟨0, h⟩
/- laws_FnOrders -/
def con_laws_FnOrders (f : Nat → List Int → Option (Bool)) : Con := ⟨[.c (.sl (.int .u8))], 1, [.v false [.bool]], f⟩
def laws_FnOrders_ (impl_OrderOk : Nat → (Int × Int × Int × Int) → Option (Bool)) (impl_OrderText : Nat → (Int × Int × Int × Int) → Option (ByteArray × Bool)) (impl_ReadOrder : Nat → ByteArray → Option ((Int × Int × Int × Int) × Bool)) (laws_big : Nat → List Int → Option (Bool)) (laws_turned : Nat → ByteArray × List Int → Option (ByteArray)) (spec_DrawOrderText : Nat → List Int → Option ((Int × Int × Int × Int))) (spec_DrawPlaces : Nat → List Int → Option (List Int)) (spec_DrawReadOrder : Nat → List Int → Option (ByteArray)) (spec_OrderOk : Nat → (Int × Int × Int × Int) → Option (Bool)) (spec_ReadOrder : Nat → ByteArray → Option ((Int × Int × Int × Int) × Bool)) (k : Nat) : List Int → Option (Bool)
  | a0 =>
  (laws_big k a0).bind fun v0 =>
  if v0 = true then
   some true
  else
   (spec_DrawOrderText k a0).bind fun v1 =>
   (impl_OrderText k v1).bind fun v2 =>
   (impl_ReadOrder k v2.1).bind fun v3 =>
   (spec_OrderOk k v1).bind fun v4 =>
   if (v2.2 == v4) = true then
    (impl_OrderOk k v1).bind fun v5 =>
    if (v5 == v2.2) = true then
     if v2.2 = true then
      if v3.2 = true then
       if v3.1.1 = v1.1 then
        if v3.1.2.1 = v1.2.1 then
         if v3.1.2.2.1 = v1.2.2.1 then
          if v3.1.2.2.2 = v1.2.2.2 then
           (spec_DrawReadOrder k a0).bind fun v6 =>
           (impl_ReadOrder k v6).bind fun v7 =>
           (spec_ReadOrder k v6).bind fun v8 =>
           (impl_OrderText k v7.1).bind fun v9 =>
           (spec_DrawPlaces k a0).bind fun v10 =>
           (laws_turned k (v2.1, v10)).bind fun v11 =>
           (impl_ReadOrder k v11).bind fun v12 =>
           if (v7.2 == v8.2) = true then
            if v7.2 = true then
             if v9.1 = v6 then
              if v2.2 = true then
               some (!v12.2)
              else
               some true
             else
              some false
            else
             if v2.2 = true then
              some (!v12.2)
             else
              some true
           else
            some false
          else
           some false
         else
          some false
        else
         some false
       else
        some false
      else
       some false
     else
      (spec_DrawReadOrder k a0).bind fun v13 =>
      (impl_ReadOrder k v13).bind fun v14 =>
      (spec_ReadOrder k v13).bind fun v15 =>
      (impl_OrderText k v14.1).bind fun v16 =>
      (spec_DrawPlaces k a0).bind fun v17 =>
      (laws_turned k (v2.1, v17)).bind fun v18 =>
      (impl_ReadOrder k v18).bind fun v19 =>
      if (v14.2 == v15.2) = true then
       if v14.2 = true then
        if v16.1 = v13 then
         if v2.2 = true then
          some (!v19.2)
         else
          some true
        else
         some false
       else
        if v2.2 = true then
         some (!v19.2)
        else
         some true
      else
       some false
    else
     some false
   else
    some false
noncomputable def g_laws_FnOrders : List Int → Option (Bool) := laws_FnOrders_ (fun _ => g_impl_OrderOk) (fun _ => g_impl_OrderText) (fun _ => g_impl_ReadOrder) (fun _ => g_laws_big) (fun _ => g_laws_turned) (fun _ => g_spec_DrawOrderText) (fun _ => g_spec_DrawPlaces) (fun _ => g_spec_DrawReadOrder) (fun _ => g_spec_OrderOk) (fun _ => g_spec_ReadOrder) 0
theorem e_laws_FnOrders : ∀ x b, g_laws_FnOrders x = some b → ∃ k, laws_FnOrders_ (fun _ => g_impl_OrderOk) (fun _ => g_impl_OrderText) (fun _ => g_impl_ReadOrder) (fun _ => g_laws_big) (fun _ => g_laws_turned) (fun _ => g_spec_DrawOrderText) (fun _ => g_spec_DrawPlaces) (fun _ => g_spec_DrawReadOrder) (fun _ => g_spec_OrderOk) (fun _ => g_spec_ReadOrder) k x = some b := fun x b h => ⟨0, h⟩
end Go.Sx.T
