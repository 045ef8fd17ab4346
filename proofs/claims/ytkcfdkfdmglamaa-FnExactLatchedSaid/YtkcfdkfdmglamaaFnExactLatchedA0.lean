/- Functions of the program as functions of Lean, and that the program keeps to them. -/
import Derived.Test.YtkcfdkfdmglamaaSxP13
set_option maxRecDepth 100000
set_option linter.unusedVariables false
set_option linter.unusedSimpArgs false
namespace Go.Proofs
end Go.Proofs
namespace Go.Sx.T
open Go Go.Sx Go.Proofs Go.RowKit
/- impl_within -/
def con_impl_within (f : Nat → Int × Int × Int → Option (Bool)) : Con := ⟨[.c (.int .i64), .c (.int .i64), .c (.int .i64)], 1, [.v false [.bool]], f⟩
def impl_within_ (k : Nat) : Int × Int × Int → Option (Bool)
  | (a0, a1, a2) =>
  if a1 ≤ a0 then
   some (decide (a0 ≤ a2))
  else
   some false
noncomputable def g_impl_within : Int × Int × Int → Option (Bool) := impl_within_  0
theorem e_impl_within : ∀ x b, g_impl_within x = some b → ∃ k, impl_within_  k x = some b := fun x b h => ⟨0, h⟩
/- impl_MenuNew -/
def con_impl_MenuNew (f : Nat → Unit → Option ((Int × Bool × Int × Int × ByteArray))) : Con := ⟨[], 1, [.v true [.int .i64, .bool, .int .i64, .int .i64, .str]], f⟩
def impl_MenuNew_ (k : Nat) : Unit → Option ((Int × Bool × Int × Int × ByteArray))
  | () =>
  some (1, (false, (0, (0, (⟨#[]⟩ : ByteArray)))))
noncomputable def g_impl_MenuNew : Unit → Option ((Int × Bool × Int × Int × ByteArray)) := impl_MenuNew_  0
theorem e_impl_MenuNew : ∀ x b, g_impl_MenuNew x = some b → ∃ k, impl_MenuNew_  k x = some b := fun x b h => ⟨0, h⟩
/- impl_MenuOk -/
def con_impl_MenuOk (f : Nat → (Int × Bool × Int × Int × ByteArray) → Option (Bool)) : Con := ⟨[.agg [.int .i64, .bool, .int .i64, .int .i64, .str]], 1, [.v false [.bool]], f⟩
def impl_MenuOk_L2 (impl_MenuNew : Nat → Unit → Option ((Int × Bool × Int × Int × ByteArray))) (impl_within : Nat → Int × Int × Int → Option (Bool)) : Nat → Int × Int × Int × Bool × Int × Int × ByteArray × Unit → Option (Bool)
  | 0, _ => none
  | k + 1, (b0, b1, b2, b3, b4, b5, b6, ()) =>
    if b1 < b0 then
     if 0 ≤ b1 then
      if b1 < ((ByteArray.size b6 : Nat) : Int) then (impl_within k ((wrap64 (byt b6 b1)), (48, 57))).bind fun v0 =>
       if v0 = true then
        impl_MenuOk_L2 impl_MenuNew impl_within k (b0, (wrap64 (b1 + 1)), b2, b3, b4, b5, b6, ())
       else
        some false else none
     else
      none
    else
     if b2 = 1 then
      (impl_MenuNew k ()).bind fun v1 =>
      some ((decide (b2 = v1.1)) && ((b3 == v1.2.1) && ((decide (b4 = v1.2.2.1)) && ((decide (b5 = v1.2.2.2.1)) && (decide (b6 = v1.2.2.2.2))))))
     else
      (impl_within k (b2, (2, 4))).bind fun v2 =>
      if v2 = true then
       (impl_within k (b4, (0, 9999))).bind fun v3 =>
       if v3 = true then
        (impl_within k (b5, (0, 9999))).bind fun v4 =>
        if v4 = true then
         some (decide (((ByteArray.size b6 : Nat) : Int) ≤ 4))
        else
         some false
       else
        some false
      else
       some false
def impl_MenuOk_ (impl_MenuNew : Nat → Unit → Option ((Int × Bool × Int × Int × ByteArray))) (impl_within : Nat → Int × Int × Int → Option (Bool)) (k : Nat) : (Int × Bool × Int × Int × ByteArray) → Option (Bool)
  | (a0, a1, a2, a3, a4) =>
  impl_MenuOk_L2 impl_MenuNew impl_within k (((ByteArray.size a4 : Nat) : Int), 0, a0, a1, a2, a3, a4, ())
noncomputable def g_impl_MenuOk : (Int × Bool × Int × Int × ByteArray) → Option (Bool) := evG (impl_MenuOk_ (fun _ => g_impl_MenuNew) (fun _ => g_impl_within))
theorem e_impl_MenuOk : ∀ x b, g_impl_MenuOk x = some b → ∃ k, impl_MenuOk_ (fun _ => g_impl_MenuNew) (fun _ => g_impl_within) k x = some b := evG_e _
/- impl_SenseOk -/
def con_impl_SenseOk (f : Nat → Int → Option (Bool)) : Con := ⟨[.c (.int .i64)], 1, [.v false [.bool]], f⟩
def impl_SenseOk_ (impl_within : Nat → Int × Int × Int → Option (Bool)) (k : Nat) : Int → Option (Bool)
  | a0 =>
  (impl_within k (a0, (0, 15))).bind fun v0 =>
  some v0
noncomputable def g_impl_SenseOk : Int → Option (Bool) := impl_SenseOk_ (fun _ => g_impl_within) 0
theorem e_impl_SenseOk : ∀ x b, g_impl_SenseOk x = some b → ∃ k, impl_SenseOk_ (fun _ => g_impl_within) k x = some b := fun x b h => ⟨0, h⟩
/- impl_isSeen -/
def con_impl_isSeen (f : Nat → ((List (Int × (Int × (Int × Int))))) → Option (Bool)) : Con := ⟨[.c (.sl (.pair (.int .i64) (.pair (.int .i64) (.pair (.int .i64) (.int .i64)))))], 1, [.v false [.bool]], f⟩
def impl_isSeen_L2 : Nat → Int × Int × (List (Int × (Int × (Int × Int)))) × Unit → Option (Bool)
  | 0, _ => none
  | k + 1, (b0, b1, b2, ()) =>
    if b1 < b0 then
     if 0 ≤ b1 then
      if b1 < ((List.length b2 : Nat) : Int) then
       if (List.getD b2 (Int.toNat b1) (0, (0, (0, 0)))).1 = 5 then
        some true
       else
        impl_isSeen_L2 k (b0, (wrap64 (b1 + 1)), b2, ())
      else
       none
     else
      none
    else
     some false
def impl_isSeen_ (k : Nat) : ((List (Int × (Int × (Int × Int))))) → Option (Bool)
  | a0 =>
  impl_isSeen_L2 k (((List.length a0 : Nat) : Int), 0, a0, ())
noncomputable def g_impl_isSeen : ((List (Int × (Int × (Int × Int))))) → Option (Bool) := evG (impl_isSeen_ )
theorem e_impl_isSeen : ∀ x b, g_impl_isSeen x = some b → ∃ k, impl_isSeen_  k x = some b := evG_e _
/- impl_OrderOk -/
def con_impl_OrderOk (f : Nat → (Int × Int × Int × Int) → Option (Bool)) : Con := ⟨[.agg [.int .i64, .int .i64, .int .i64, .int .i64]], 1, [.v false [.bool]], f⟩
def impl_OrderOk_ (impl_within : Nat → Int × Int × Int → Option (Bool)) (k : Nat) : (Int × Int × Int × Int) → Option (Bool)
  | (a0, a1, a2, a3) =>
  if a0 = 1 then
   (impl_within k (a2, (1, 1000))).bind fun v0 =>
   if v0 = true then
    (impl_within k (a1, (1, (mn 1000 (wrap64 (3 * a2)))))).bind fun v1 =>
    if v1 = true then
     (impl_within k (a3, (1, 5000))).bind fun v2 =>
     some v2
    else
     some false
   else
    some false
  else
   if a0 = 2 then
    if a0 = 2 then
     if a1 = 0 then
      if a2 = 0 then
       if a3 = a3 then
        (impl_within k (a3, (1, 100))).bind fun v3 =>
        some v3
       else
        some false
      else
       some false
     else
      some false
    else
     some false
   else
    (impl_within k (a0, (3, 6))).bind fun v4 =>
    if v4 = true then
     some ((decide (a0 = a0)) && ((decide (a1 = 0)) && ((decide (a2 = 0)) && (decide (a3 = 0)))))
    else
     some false
noncomputable def g_impl_OrderOk : (Int × Int × Int × Int) → Option (Bool) := impl_OrderOk_ (fun _ => g_impl_within) 0
theorem e_impl_OrderOk : ∀ x b, g_impl_OrderOk x = some b → ∃ k, impl_OrderOk_ (fun _ => g_impl_within) k x = some b := fun x b h => ⟨0, h⟩
/- impl_ReadVar -/
def con_impl_ReadVar (f : Nat → ByteArray × Int → Option (Int × Int × Bool)) : Con := ⟨[.c (.str), .c (.int .i64)], 3, [.v false [.int .i64], .v false [.int .i64], .v false [.bool]], f⟩
def impl_ReadVar_L5 (impl_within : Nat → Int × Int × Int → Option (Bool)) : Nat → ByteArray × Int × Int × Int × Unit → Option (Int × Int × Bool)
  | 0, _ => none
  | k + 1, (b0, b1, b2, b3, ()) =>
    if b3 < 5 then
     if (wrap64 (b1 + b3)) < ((ByteArray.size b0 : Nat) : Int) then
      if 0 ≤ (wrap64 (b1 + b3)) then
       if (wrap64 (b1 + b3)) < ((ByteArray.size b0 : Nat) : Int) then
        if 128 = 0 then
         none
        else
         if 0 ≤ (wrap64 (7 * b3)) then
          if 127 < (wrap64 (byt b0 (wrap64 (b1 + b3)))) then
           impl_ReadVar_L5 impl_within k (b0, b1, (wrap64 (b2 + (wr .i64 ((Int.tmod (wrap64 (byt b0 (wrap64 (b1 + b3)))) 128) * 2 ^ (min (Int.toNat (wrap64 (7 * b3))) (IntKind.bits .i64)))))), (wrap64 (b3 + 1)), ())
          else
           if 0 < b3 then
            if (wrap64 (byt b0 (wrap64 (b1 + b3)))) = 0 then
             some (0, (0, false))
            else
             if 1000000000 < (wrap64 (b2 + (wr .i64 ((Int.tmod (wrap64 (byt b0 (wrap64 (b1 + b3)))) 128) * 2 ^ (min (Int.toNat (wrap64 (7 * b3))) (IntKind.bits .i64)))))) then
              some (0, (0, false))
             else
              some ((wrap64 (b2 + (wr .i64 ((Int.tmod (wrap64 (byt b0 (wrap64 (b1 + b3)))) 128) * 2 ^ (min (Int.toNat (wrap64 (7 * b3))) (IntKind.bits .i64)))))), ((wrap64 ((wrap64 (b1 + b3)) + 1)), true))
           else
            if 1000000000 < (wrap64 (b2 + (wr .i64 ((Int.tmod (wrap64 (byt b0 (wrap64 (b1 + b3)))) 128) * 2 ^ (min (Int.toNat (wrap64 (7 * b3))) (IntKind.bits .i64)))))) then
             some (0, (0, false))
            else
             some ((wrap64 (b2 + (wr .i64 ((Int.tmod (wrap64 (byt b0 (wrap64 (b1 + b3)))) 128) * 2 ^ (min (Int.toNat (wrap64 (7 * b3))) (IntKind.bits .i64)))))), ((wrap64 ((wrap64 (b1 + b3)) + 1)), true))
         else
          none
       else
        none
      else
       none
     else
      some (0, (0, false))
    else
     some (0, (0, false))
def impl_ReadVar_ (impl_within : Nat → Int × Int × Int → Option (Bool)) (k : Nat) : ByteArray × Int → Option (Int × Int × Bool)
  | (a0, a1) =>
  (impl_within k (a1, (0, ((ByteArray.size a0 : Nat) : Int)))).bind fun v0 =>
  if v0 = true then
   impl_ReadVar_L5 impl_within k (a0, a1, 0, 0, ())
  else
   some (0, (0, false))
noncomputable def g_impl_ReadVar : ByteArray × Int → Option (Int × Int × Bool) := evG (impl_ReadVar_ (fun _ => g_impl_within))
theorem e_impl_ReadVar : ∀ x b, g_impl_ReadVar x = some b → ∃ k, impl_ReadVar_ (fun _ => g_impl_within) k x = some b := evG_e _
/- impl_reader__number -/
def con_impl_reader__number (f : Nat → (ByteArray × Int × Bool) → Option (Int × (ByteArray × Int × Bool))) : Con := ⟨[.ptr [.str, .int .i64, .bool] 192], 1, [.v false [.int .i64], .box [.str, .int .i64, .bool] 192], f⟩
def impl_reader__number_ (impl_ReadVar : Nat → ByteArray × Int → Option (Int × Int × Bool)) (k : Nat) : (ByteArray × Int × Bool) → Option (Int × (ByteArray × Int × Bool))
  | (a0, a1, a2) =>
  (impl_ReadVar k (a0, a1)).bind fun v0 =>
  if a2 = true then
   some (0, (a0, (a1, true)))
  else
   if v0.2.2 = true then
    some (v0.1, (a0, (v0.2.1, a2)))
   else
    some (0, (a0, (a1, true)))
noncomputable def g_impl_reader__number : (ByteArray × Int × Bool) → Option (Int × (ByteArray × Int × Bool)) := impl_reader__number_ (fun _ => g_impl_ReadVar) 0
theorem e_impl_reader__number : ∀ x b, g_impl_reader__number x = some b → ∃ k, impl_reader__number_ (fun _ => g_impl_ReadVar) k x = some b := fun x b h => ⟨0, h⟩
/- impl_highFirst -/
def con_impl_highFirst (f : Nat → Int × Int → Option (ByteArray)) : Con := ⟨[.c (.int .i64), .c (.int .i64)], 1, [.v false [.str]], f⟩
def impl_highFirst_L3 : Nat → Int × Int × List Int × Unit → Option (ByteArray)
  | 0, _ => none
  | k + 1, (b0, b1, b2, ()) =>
    if 0 ≤ b1 then
     if 0 ≤ b1 then
      if b1 < ((List.length b2 : Nat) : Int) then
       if 0 ≤ 8 then impl_highFirst_L3 k ((Int.fdiv b0 (2 ^ (min (Int.toNat 8) (IntKind.bits .i64)))), (wrap64 (b1 - 1)), (List.set b2 (Int.toNat b1) (wr .u8 (iand .i64 b0 255))), ()) else none
      else
       none
     else
      none
    else
     some (bstr b2)
def impl_highFirst_ (k : Nat) : Int × Int → Option (ByteArray)
  | (a0, a1) =>
  if a1 = a1 then
   if 0 ≤ a1 then
    if (a1 * ((1 : Nat) : Int)) ≤ 140737488355328 then impl_highFirst_L3 k (a0, (wrap64 (a1 - 1)), (List.replicate (Int.toNat a1) 0), ()) else none
   else
    none
  else
   none
noncomputable def g_impl_highFirst : Int × Int → Option (ByteArray) := evG (impl_highFirst_ )
theorem e_impl_highFirst : ∀ x b, g_impl_highFirst x = some b → ∃ k, impl_highFirst_  k x = some b := evG_e _
/- impl_SumMore -/
def con_impl_SumMore (f : Nat → Int × ByteArray → Option (Int)) : Con := ⟨[.c (.int .u32), .c (.str)], 1, [.v false [.int .u32]], f⟩
mutual
def impl_SumMore_L2 : Nat → Int × ByteArray × Int × Unit → Option (Int)
  | 0, _ => none
  | k + 1, (b0, b1, b2, ()) =>
    if b2 < ((ByteArray.size b1 : Nat) : Int) then
     if 0 ≤ b2 then
      if b2 < ((ByteArray.size b1 : Nat) : Int) then impl_SumMore_L6 k ((ixor .u32 b0 (wr .u32 (byt b1 b2))), b1, b2, 0, ()) else none
     else
      none
    else
     some b0
def impl_SumMore_L6 : Nat → Int × ByteArray × Int × Int × Unit → Option (Int)
  | 0, _ => none
  | k + 1, (b0, b1, b2, b3, ()) =>
    if b3 < 8 then
     if 2 = 0 then
      none
     else
      if 2 = 0 then
       none
      else
       if (Int.tmod b0 2) = 1 then
        impl_SumMore_L6 k ((ixor .u32 (wr .u32 (Int.tdiv b0 2)) 3558460437), b1, b2, (wrap64 (b3 + 1)), ())
       else
        impl_SumMore_L6 k ((wr .u32 (Int.tdiv b0 2)), b1, b2, (wrap64 (b3 + 1)), ())
    else
     impl_SumMore_L2 k (b0, b1, (wrap64 (b2 + 1)), ())
end
def impl_SumMore_ (k : Nat) : Int × ByteArray → Option (Int)
  | (a0, a1) =>
  impl_SumMore_L2 k (a0, a1, 0, ())
noncomputable def g_impl_SumMore : Int × ByteArray → Option (Int) := evG (impl_SumMore_ )
theorem e_impl_SumMore : ∀ x b, g_impl_SumMore x = some b → ∃ k, impl_SumMore_  k x = some b := evG_e _
/- impl_SumOf -/
def con_impl_SumOf (f : Nat → ByteArray → Option (Int)) : Con := ⟨[.c (.str)], 1, [.v false [.int .u32]], f⟩
def impl_SumOf_ (impl_SumMore : Nat → Int × ByteArray → Option (Int)) (k : Nat) : ByteArray → Option (Int)
  | a0 =>
  (impl_SumMore k (4294967295, a0)).bind fun v0 =>
  some v0
noncomputable def g_impl_SumOf : ByteArray → Option (Int) := impl_SumOf_ (fun _ => g_impl_SumMore) 0
theorem e_impl_SumOf : ∀ x b, g_impl_SumOf x = some b → ∃ k, impl_SumOf_ (fun _ => g_impl_SumMore) k x = some b := fun x b h => ⟨0, h⟩
/- impl_Sealed -/
def con_impl_Sealed (f : Nat → ByteArray → Option (ByteArray × Bool)) : Con := ⟨[.c (.str)], 2, [.v false [.str], .v false [.bool]], f⟩
def impl_Sealed_ (impl_SumOf : Nat → ByteArray → Option (Int)) (impl_highFirst : Nat → Int × Int → Option (ByteArray)) (k : Nat) : ByteArray → Option (ByteArray × Bool)
  | a0 =>
  if 20000 < ((ByteArray.size a0 : Nat) : Int) then
   some ((⟨#[]⟩ : ByteArray), false)
  else
   (impl_SumOf k a0).bind fun v0 =>
   (impl_highFirst k ((wrap64 v0), 4)).bind fun v1 =>
   if ((ByteArray.size a0 + ByteArray.size v1 : Nat) : Int) ≤ 9223372036854775807 then some ((a0 ++ v1), true) else none
noncomputable def g_impl_Sealed : ByteArray → Option (ByteArray × Bool) := impl_Sealed_ (fun _ => g_impl_SumOf) (fun _ => g_impl_highFirst) 0
theorem e_impl_Sealed : ∀ x b, g_impl_Sealed x = some b → ∃ k, impl_Sealed_ (fun _ => g_impl_SumOf) (fun _ => g_impl_highFirst) k x = some b := fun x b h => ⟨0, h⟩
/- impl_Unsealed -/
def con_impl_Unsealed (f : Nat → ByteArray → Option (ByteArray × Bool)) : Con := ⟨[.c (.str)], 2, [.v false [.str], .v false [.bool]], f⟩
def impl_Unsealed_ (impl_Sealed : Nat → ByteArray → Option (ByteArray × Bool)) (k : Nat) : ByteArray → Option (ByteArray × Bool)
  | a0 =>
  if (wrap64 (((ByteArray.size a0 : Nat) : Int) - 4)) < 0 then
   some ((⟨#[]⟩ : ByteArray), false)
  else
   if 0 ≤ (wrap64 (((ByteArray.size a0 : Nat) : Int) - 4)) then
    if (wrap64 (((ByteArray.size a0 : Nat) : Int) - 4)) ≤ ((ByteArray.size a0 : Nat) : Int) then (impl_Sealed k (ByteArray.extract a0 (Int.toNat 0) (Int.toNat (wrap64 (((ByteArray.size a0 : Nat) : Int) - 4))))).bind fun v0 =>
     if v0.2 = true then
      if v0.1 = a0 then
       if 0 ≤ (wrap64 (((ByteArray.size a0 : Nat) : Int) - 4)) then
        if (wrap64 (((ByteArray.size a0 : Nat) : Int) - 4)) ≤ ((ByteArray.size a0 : Nat) : Int) then some ((ByteArray.extract a0 (Int.toNat 0) (Int.toNat (wrap64 (((ByteArray.size a0 : Nat) : Int) - 4)))), true) else none
       else
        none
      else
       some ((⟨#[]⟩ : ByteArray), false)
     else
      some ((⟨#[]⟩ : ByteArray), false) else none
   else
    none
noncomputable def g_impl_Unsealed : ByteArray → Option (ByteArray × Bool) := impl_Unsealed_ (fun _ => g_impl_Sealed) 0
theorem e_impl_Unsealed : ∀ x b, g_impl_Unsealed x = some b → ∃ k, impl_Unsealed_ (fun _ => g_impl_Sealed) k x = some b := fun x b h => ⟨0, h⟩
/- impl_ReadOrder -/
def con_impl_ReadOrder (f : Nat → ByteArray → Option ((Int × Int × Int × Int) × Bool)) : Con := ⟨[.c (.str)], 2, [.v true [.int .i64, .int .i64, .int .i64, .int .i64], .v false [.bool]], f⟩
def impl_ReadOrder_ (impl_OrderOk : Nat → (Int × Int × Int × Int) → Option (Bool)) (impl_Unsealed : Nat → ByteArray → Option (ByteArray × Bool)) (impl_reader__number : Nat → (ByteArray × Int × Bool) → Option (Int × (ByteArray × Int × Bool))) (k : Nat) : ByteArray → Option ((Int × Int × Int × Int) × Bool)
  | a0 =>
  (impl_Unsealed k a0).bind fun v0 =>
  if v0.2 = true then
   if v0.1 = (⟨#[]⟩ : ByteArray) then
    some ((0, (0, (0, 0))), false)
   else
    if 0 ≤ 0 then
     if 0 < ((ByteArray.size v0.1 : Nat) : Int) then (impl_reader__number k (v0.1, (1, false))).bind fun v1 =>
      (impl_reader__number k v1.2).bind fun v2 =>
      (impl_reader__number k v2.2).bind fun v3 =>
      if v3.2.2.2 = true then
       some ((0, (0, (0, 0))), false)
      else
       if v3.2.2.1 = ((ByteArray.size v0.1 : Nat) : Int) then
        (impl_OrderOk k ((wrap64 (byt v0.1 0)), (v1.1, (v2.1, v3.1)))).bind fun v4 =>
        if v4 = true then
         some (((wrap64 (byt v0.1 0)), (v1.1, (v2.1, v3.1))), true)
        else
         some ((0, (0, (0, 0))), false)
       else
        some ((0, (0, (0, 0))), false) else none
    else
     none
  else
   some ((0, (0, (0, 0))), false)
noncomputable def g_impl_ReadOrder : ByteArray → Option ((Int × Int × Int × Int) × Bool) := impl_ReadOrder_ (fun _ => g_impl_OrderOk) (fun _ => g_impl_Unsealed) (fun _ => g_impl_reader__number) 0
theorem e_impl_ReadOrder : ∀ x b, g_impl_ReadOrder x = some b → ∃ k, impl_ReadOrder_ (fun _ => g_impl_OrderOk) (fun _ => g_impl_Unsealed) (fun _ => g_impl_reader__number) k x = some b := fun x b h => ⟨0, h⟩
/- impl_typed -/
def con_impl_typed (f : Nat → ByteArray → Option (Int)) : Con := ⟨[.c (.str)], 1, [.v false [.int .i64]], f⟩
def impl_typed_L3 : Nat → ByteArray × Int × Int × Int × Unit → Option (Int)
  | 0, _ => none
  | k + 1, (b0, b1, b2, b3, ()) =>
    if b3 < b2 then
     if 0 ≤ b3 then
      if b3 < ((ByteArray.size b0 : Nat) : Int) then impl_typed_L3 k (b0, (wrap64 ((wrap64 (10 * b1)) + (wrap64 (wr .u8 ((byt b0 b3) - 48))))), b2, (wrap64 (b3 + 1)), ()) else none
     else
      none
    else
     some b1
def impl_typed_ (k : Nat) : ByteArray → Option (Int)
  | a0 =>
  impl_typed_L3 k (a0, 0, ((ByteArray.size a0 : Nat) : Int), 0, ())
noncomputable def g_impl_typed : ByteArray → Option (Int) := evG (impl_typed_ )
theorem e_impl_typed : ∀ x b, g_impl_typed x = some b → ∃ k, impl_typed_  k x = some b := evG_e _
/- impl_Menu__enter -/
def con_impl_Menu__enter (f : Nat → (Int × Bool × Int × Int × ByteArray) → Option ((Int × Bool × Int × Int × ByteArray) × (Int × Int × Int × Int) × Bool)) : Con := ⟨[.agg [.int .i64, .bool, .int .i64, .int .i64, .str]], 3, [.v true [.int .i64, .bool, .int .i64, .int .i64, .str], .v true [.int .i64, .int .i64, .int .i64, .int .i64], .v false [.bool]], f⟩
def impl_Menu__enter_ (impl_MenuNew : Nat → Unit → Option ((Int × Bool × Int × Int × ByteArray))) (impl_OrderOk : Nat → (Int × Int × Int × Int) → Option (Bool)) (impl_typed : Nat → ByteArray → Option (Int)) (k : Nat) : (Int × Bool × Int × Int × ByteArray) → Option ((Int × Bool × Int × Int × ByteArray) × (Int × Int × Int × Int) × Bool)
  | (a0, a1, a2, a3, a4) =>
  (impl_typed k a4).bind fun v0 =>
  if a0 = 2 then
   some ((3, (a1, (v0, (a3, (⟨#[]⟩ : ByteArray))))), ((0, (0, (0, 0))), false))
  else
   if a0 = 3 then
    some ((4, (a1, (a2, (v0, (⟨#[]⟩ : ByteArray))))), ((0, (0, (0, 0))), false))
   else
    if a1 = true then
     (impl_OrderOk k (2, (0, (0, v0)))).bind fun v1 =>
     if v1 = true then
      (impl_MenuNew k ()).bind fun v2 =>
      some (v2, ((2, (0, (0, v0))), true))
     else
      (impl_MenuNew k ()).bind fun v3 =>
      some (v3, ((0, (0, (0, 0))), false))
    else
     (impl_OrderOk k (1, (a2, (a3, v0)))).bind fun v4 =>
     if v4 = true then
      (impl_MenuNew k ()).bind fun v5 =>
      some (v5, ((1, (a2, (a3, v0))), true))
     else
      (impl_MenuNew k ()).bind fun v6 =>
      some (v6, ((0, (0, (0, 0))), false))
noncomputable def g_impl_Menu__enter : (Int × Bool × Int × Int × ByteArray) → Option ((Int × Bool × Int × Int × ByteArray) × (Int × Int × Int × Int) × Bool) := impl_Menu__enter_ (fun _ => g_impl_MenuNew) (fun _ => g_impl_OrderOk) (fun _ => g_impl_typed) 0
theorem e_impl_Menu__enter : ∀ x b, g_impl_Menu__enter x = some b → ∃ k, impl_Menu__enter_ (fun _ => g_impl_MenuNew) (fun _ => g_impl_OrderOk) (fun _ => g_impl_typed) k x = some b := fun x b h => ⟨0, h⟩
/- impl_Menu__top -/
def con_impl_Menu__top (f : Nat → (Int × Bool × Int × Int × ByteArray) × Int → Option ((Int × Bool × Int × Int × ByteArray) × (Int × Int × Int × Int) × Bool)) : Con := ⟨[.agg [.int .i64, .bool, .int .i64, .int .i64, .str], .c (.int .i64)], 3, [.v true [.int .i64, .bool, .int .i64, .int .i64, .str], .v true [.int .i64, .int .i64, .int .i64, .int .i64], .v false [.bool]], f⟩
def impl_Menu__top_ (k : Nat) : (Int × Bool × Int × Int × ByteArray) × Int → Option ((Int × Bool × Int × Int × ByteArray) × (Int × Int × Int × Int) × Bool)
  | ((a0, a1, a2, a3, a4), a5) =>
  if a5 = 98 then
   some ((2, (false, (0, (0, (⟨#[]⟩ : ByteArray))))), ((0, (0, (0, 0))), false))
  else
   if a5 = 111 then
    some ((4, (true, (0, (0, (⟨#[]⟩ : ByteArray))))), ((0, (0, (0, 0))), false))
   else
    if a5 = 112 then
     some ((a0, (a1, (a2, (a3, a4)))), ((3, (0, (0, 0))), true))
    else
     if a5 = 103 then
      some ((a0, (a1, (a2, (a3, a4)))), ((4, (0, (0, 0))), true))
     else
      if a5 = 115 then
       some ((a0, (a1, (a2, (a3, a4)))), ((5, (0, (0, 0))), true))
      else
       if a5 = 120 then
        some ((a0, (a1, (a2, (a3, a4)))), ((6, (0, (0, 0))), true))
       else
        some ((a0, (a1, (a2, (a3, a4)))), ((0, (0, (0, 0))), false))
noncomputable def g_impl_Menu__top : (Int × Bool × Int × Int × ByteArray) × Int → Option ((Int × Bool × Int × Int × ByteArray) × (Int × Int × Int × Int) × Bool) := impl_Menu__top_  0
theorem e_impl_Menu__top : ∀ x b, g_impl_Menu__top x = some b → ∃ k, impl_Menu__top_  k x = some b := fun x b h => ⟨0, h⟩
/- impl_Press -/
def con_impl_Press (f : Nat → (Int × Bool × Int × Int × ByteArray) × Int → Option ((Int × Bool × Int × Int × ByteArray) × (Int × Int × Int × Int) × Bool)) : Con := ⟨[.agg [.int .i64, .bool, .int .i64, .int .i64, .str], .c (.int .i64)], 3, [.v true [.int .i64, .bool, .int .i64, .int .i64, .str], .v true [.int .i64, .int .i64, .int .i64, .int .i64], .v false [.bool]], f⟩
def impl_Press_ (impl_MenuNew : Nat → Unit → Option ((Int × Bool × Int × Int × ByteArray))) (impl_MenuOk : Nat → (Int × Bool × Int × Int × ByteArray) → Option (Bool)) (impl_Menu__enter : Nat → (Int × Bool × Int × Int × ByteArray) → Option ((Int × Bool × Int × Int × ByteArray) × (Int × Int × Int × Int) × Bool)) (impl_Menu__top : Nat → (Int × Bool × Int × Int × ByteArray) × Int → Option ((Int × Bool × Int × Int × ByteArray) × (Int × Int × Int × Int) × Bool)) (impl_within : Nat → Int × Int × Int → Option (Bool)) (k : Nat) : (Int × Bool × Int × Int × ByteArray) × Int → Option ((Int × Bool × Int × Int × ByteArray) × (Int × Int × Int × Int) × Bool)
  | ((a0, a1, a2, a3, a4), a5) =>
  (impl_MenuOk k (a0, (a1, (a2, (a3, a4))))).bind fun v0 =>
  if v0 = true then
   if a0 = 1 then
    (impl_Menu__top k ((a0, (a1, (a2, (a3, a4)))), a5)).bind fun v1 =>
    some v1
   else
    if a5 = 10 then
     (impl_Menu__enter k (a0, (a1, (a2, (a3, a4))))).bind fun v2 =>
     some v2
    else
     if a5 = 99 then
      (impl_MenuNew k ()).bind fun v3 =>
      some (v3, ((0, (0, (0, 0))), false))
     else
      (impl_within k (a5, (48, 57))).bind fun v4 =>
      if v4 = true then
       if ((ByteArray.size a4 : Nat) : Int) < 4 then
        if ((ByteArray.size a4 + ByteArray.size (bstr [(wr .u8 a5)]) : Nat) : Int) ≤ 9223372036854775807 then some ((a0, (a1, (a2, (a3, (a4 ++ (bstr [(wr .u8 a5)])))))), ((0, (0, (0, 0))), false)) else none
       else
        some ((a0, (a1, (a2, (a3, a4)))), ((0, (0, (0, 0))), false))
      else
       some ((a0, (a1, (a2, (a3, a4)))), ((0, (0, (0, 0))), false))
  else
   some ((a0, (a1, (a2, (a3, a4)))), ((0, (0, (0, 0))), false))
noncomputable def g_impl_Press : (Int × Bool × Int × Int × ByteArray) × Int → Option ((Int × Bool × Int × Int × ByteArray) × (Int × Int × Int × Int) × Bool) := impl_Press_ (fun _ => g_impl_MenuNew) (fun _ => g_impl_MenuOk) (fun _ => g_impl_Menu__enter) (fun _ => g_impl_Menu__top) (fun _ => g_impl_within) 0
theorem e_impl_Press : ∀ x b, g_impl_Press x = some b → ∃ k, impl_Press_ (fun _ => g_impl_MenuNew) (fun _ => g_impl_MenuOk) (fun _ => g_impl_Menu__enter) (fun _ => g_impl_Menu__top) (fun _ => g_impl_within) k x = some b := fun x b h => ⟨0, h⟩
/- impl_PressAll -/
def con_impl_PressAll (f : Nat → (Int × Bool × Int × Int × ByteArray) × ByteArray → Option ((Int × Bool × Int × Int × ByteArray) × ((List (Int × (Int × (Int × Int))))))) : Con := ⟨[.agg [.int .i64, .bool, .int .i64, .int .i64, .str], .c (.str)], 2, [.v true [.int .i64, .bool, .int .i64, .int .i64, .str], .v false [.own (.pair (.int .i64) (.pair (.int .i64) (.pair (.int .i64) (.int .i64)))) 27]], f⟩
def impl_PressAll_L3 (impl_Press : Nat → (Int × Bool × Int × Int × ByteArray) × Int → Option ((Int × Bool × Int × Int × ByteArray) × (Int × Int × Int × Int) × Bool)) : Nat → ByteArray × Int × Int × Int × Bool × Int × Int × ByteArray × Int × Bool × Int × Int × ByteArray × (List (Int × (Int × (Int × Int)))) × Unit → Option ((Int × Bool × Int × Int × ByteArray) × ((List (Int × (Int × (Int × Int))))))
  | 0, _ => none
  | k + 1, (b0, b1, b2, b3, b4, b5, b6, b7, b8, b9, b10, b11, b12, b13, ()) =>
    if b2 < b1 then
     if 0 ≤ b2 then
      if b2 < ((ByteArray.size b0 : Nat) : Int) then (impl_Press k ((b3, (b4, (b5, (b6, b7)))), (wrap64 (byt b0 b2)))).bind fun v0 =>
       if v0.2.2 = true then
        if (((List.length b13 + List.length [v0.2.1] : Nat) : Int) * ((32 : Nat) : Int)) ≤ 140737488355328 then impl_PressAll_L3 impl_Press k (b0, b1, (wrap64 (b2 + 1)), v0.1.1, v0.1.2.1, v0.1.2.2.1, v0.1.2.2.2.1, v0.1.2.2.2.2, b8, b9, b10, b11, b12, (b13 ++ [v0.2.1]), ()) else none
       else
        impl_PressAll_L3 impl_Press k (b0, b1, (wrap64 (b2 + 1)), v0.1.1, v0.1.2.1, v0.1.2.2.1, v0.1.2.2.2.1, v0.1.2.2.2.2, b8, b9, b10, b11, b12, b13, ()) else none
     else
      none
    else
     some ((b3, (b4, (b5, (b6, b7)))), b13)
def impl_PressAll_ (impl_Press : Nat → (Int × Bool × Int × Int × ByteArray) × Int → Option ((Int × Bool × Int × Int × ByteArray) × (Int × Int × Int × Int) × Bool)) (k : Nat) : (Int × Bool × Int × Int × ByteArray) × ByteArray → Option ((Int × Bool × Int × Int × ByteArray) × ((List (Int × (Int × (Int × Int))))))
  | ((a0, a1, a2, a3, a4), a5) =>
  impl_PressAll_L3 impl_Press k (a5, ((ByteArray.size a5 : Nat) : Int), 0, a0, a1, a2, a3, a4, 0, false, 0, 0, (⟨#[]⟩ : ByteArray), ([] : List (Int × (Int × (Int × Int)))), ())
noncomputable def g_impl_PressAll : (Int × Bool × Int × Int × ByteArray) × ByteArray → Option ((Int × Bool × Int × Int × ByteArray) × ((List (Int × (Int × (Int × Int)))))) := evG (impl_PressAll_ (fun _ => g_impl_Press))
theorem e_impl_PressAll : ∀ x b, g_impl_PressAll x = some b → ∃ k, impl_PressAll_ (fun _ => g_impl_Press) k x = some b := evG_e _
/- impl_ordersOf -/
def con_impl_ordersOf (f : Nat → (Int × Bool × Int × Int × ByteArray) × (Int × ByteArray × ByteArray) → Option ((Int × Bool × Int × Int × ByteArray) × ((List (Int × (Int × (Int × Int))))))) : Con := ⟨[.agg [.int .i64, .bool, .int .i64, .int .i64, .str], .agg [.int .i64, .str, .str]], 2, [.v true [.int .i64, .bool, .int .i64, .int .i64, .str], .v false [.own (.pair (.int .i64) (.pair (.int .i64) (.pair (.int .i64) (.int .i64)))) 27]], f⟩
def impl_ordersOf_ (impl_PressAll : Nat → (Int × Bool × Int × Int × ByteArray) × ByteArray → Option ((Int × Bool × Int × Int × ByteArray) × ((List (Int × (Int × (Int × Int))))))) (impl_ReadOrder : Nat → ByteArray → Option ((Int × Int × Int × Int) × Bool)) (k : Nat) : (Int × Bool × Int × Int × ByteArray) × (Int × ByteArray × ByteArray) → Option ((Int × Bool × Int × Int × ByteArray) × ((List (Int × (Int × (Int × Int))))))
  | ((a0, a1, a2, a3, a4), (a5, a6, a7)) =>
  (impl_PressAll k ((a0, (a1, (a2, (a3, a4)))), a6)).bind fun v0 =>
  (impl_ReadOrder k a7).bind fun v1 =>
  if v1.2 = true then
   if (((List.length v0.2 + List.length [v1.1] : Nat) : Int) * ((32 : Nat) : Int)) ≤ 140737488355328 then some (v0.1, (v0.2 ++ [v1.1])) else none
  else
   some v0
noncomputable def g_impl_ordersOf : (Int × Bool × Int × Int × ByteArray) × (Int × ByteArray × ByteArray) → Option ((Int × Bool × Int × Int × ByteArray) × ((List (Int × (Int × (Int × Int)))))) := impl_ordersOf_ (fun _ => g_impl_PressAll) (fun _ => g_impl_ReadOrder) 0
theorem e_impl_ordersOf : ∀ x b, g_impl_ordersOf x = some b → ∃ k, impl_ordersOf_ (fun _ => g_impl_PressAll) (fun _ => g_impl_ReadOrder) k x = some b := fun x b h => ⟨0, h⟩
/- spec_l02Four -/
def con_spec_l02Four (f : Nat → Int → Option (ByteArray)) : Con := ⟨[.c (.int .u32)], 1, [.v false [.str]], f⟩
def spec_l02Four_ (k : Nat) : Int → Option (ByteArray)
  | a0 =>
  if 0 ≤ 24 then
   if 0 ≤ 16 then
    if 0 ≤ 8 then some (bstr [(wr .u8 (Int.fdiv a0 (2 ^ (min (Int.toNat 24) (IntKind.bits .u32))))), (wr .u8 (Int.fdiv a0 (2 ^ (min (Int.toNat 16) (IntKind.bits .u32))))), (wr .u8 (Int.fdiv a0 (2 ^ (min (Int.toNat 8) (IntKind.bits .u32))))), (wr .u8 a0)]) else none
   else
    none
  else
   none
noncomputable def g_spec_l02Four : Int → Option (ByteArray) := spec_l02Four_  0
theorem e_spec_l02Four : ∀ x b, g_spec_l02Four x = some b → ∃ k, spec_l02Four_  k x = some b := fun x b h => ⟨0, h⟩
/- spec_SumMore -/
def con_spec_SumMore (f : Nat → Int × ByteArray → Option (Int)) : Con := ⟨[.c (.int .u32), .c (.str)], 1, [.v false [.int .u32]], f⟩
mutual
def spec_SumMore_L2 : Nat → Int × ByteArray × Int × Unit → Option (Int)
  | 0, _ => none
  | k + 1, (b0, b1, b2, ()) =>
    if b2 < ((ByteArray.size b1 : Nat) : Int) then
     if 0 ≤ b2 then
      if b2 < ((ByteArray.size b1 : Nat) : Int) then spec_SumMore_L6 k ((ixor .u32 b0 (wr .u32 (byt b1 b2))), b1, b2, 0, ()) else none
     else
      none
    else
     some b0
def spec_SumMore_L6 : Nat → Int × ByteArray × Int × Int × Unit → Option (Int)
  | 0, _ => none
  | k + 1, (b0, b1, b2, b3, ()) =>
    if b3 < 8 then
     if 2 = 0 then
      none
     else
      if 2 = 0 then
       none
      else
       if (Int.tmod b0 2) = 1 then
        spec_SumMore_L6 k ((ixor .u32 (wr .u32 (Int.tdiv b0 2)) 3558460437), b1, b2, (wrap64 (b3 + 1)), ())
       else
        spec_SumMore_L6 k ((wr .u32 (Int.tdiv b0 2)), b1, b2, (wrap64 (b3 + 1)), ())
    else
     spec_SumMore_L2 k (b0, b1, (wrap64 (b2 + 1)), ())
end
def spec_SumMore_ (k : Nat) : Int × ByteArray → Option (Int)
  | (a0, a1) =>
  spec_SumMore_L2 k (a0, a1, 0, ())
noncomputable def g_spec_SumMore : Int × ByteArray → Option (Int) := evG (spec_SumMore_ )
theorem e_spec_SumMore : ∀ x b, g_spec_SumMore x = some b → ∃ k, spec_SumMore_  k x = some b := evG_e _
/- spec_SumOf -/
def con_spec_SumOf (f : Nat → ByteArray → Option (Int)) : Con := ⟨[.c (.str)], 1, [.v false [.int .u32]], f⟩
def spec_SumOf_ (spec_SumMore : Nat → Int × ByteArray → Option (Int)) (k : Nat) : ByteArray → Option (Int)
  | a0 =>
  (spec_SumMore k (4294967295, a0)).bind fun v0 =>
  some v0
noncomputable def g_spec_SumOf : ByteArray → Option (Int) := spec_SumOf_ (fun _ => g_spec_SumMore) 0
theorem e_spec_SumOf : ∀ x b, g_spec_SumOf x = some b → ∃ k, spec_SumOf_ (fun _ => g_spec_SumMore) k x = some b := fun x b h => ⟨0, h⟩
/- spec_Sealed -/
def con_spec_Sealed (f : Nat → ByteArray → Option (ByteArray × Bool)) : Con := ⟨[.c (.str)], 2, [.v false [.str], .v false [.bool]], f⟩
def spec_Sealed_ (spec_SumOf : Nat → ByteArray → Option (Int)) (spec_l02Four : Nat → Int → Option (ByteArray)) (k : Nat) : ByteArray → Option (ByteArray × Bool)
  | a0 =>
  if 20000 < ((ByteArray.size a0 : Nat) : Int) then
   some ((⟨#[]⟩ : ByteArray), false)
  else
   (spec_SumOf k a0).bind fun v0 =>
   (spec_l02Four k v0).bind fun v1 =>
   if ((ByteArray.size a0 + ByteArray.size v1 : Nat) : Int) ≤ 9223372036854775807 then some ((a0 ++ v1), true) else none
noncomputable def g_spec_Sealed : ByteArray → Option (ByteArray × Bool) := spec_Sealed_ (fun _ => g_spec_SumOf) (fun _ => g_spec_l02Four) 0
theorem e_spec_Sealed : ∀ x b, g_spec_Sealed x = some b → ∃ k, spec_Sealed_ (fun _ => g_spec_SumOf) (fun _ => g_spec_l02Four) k x = some b := fun x b h => ⟨0, h⟩
/- spec_l01Var -/
def con_spec_l01Var (f : Nat → Int → Option (ByteArray)) : Con := ⟨[.c (.int .i64)], 1, [.v false [.str]], f⟩
def spec_l01Var_L2 : Nat → Int × List Int × Unit → Option (ByteArray)
  | 0, _ => none
  | k + 1, (b0, b1, ()) =>
    if 127 < b0 then
     if 128 = 0 then
      none
     else
      if (((List.length b1 + List.length [(wr .u8 (wrap64 ((Int.tmod b0 128) + 128)))] : Nat) : Int) * ((1 : Nat) : Int)) ≤ 140737488355328 then
       if 128 = 0 then
        none
       else
        spec_l01Var_L2 k ((wrap64 (Int.tdiv b0 128)), (b1 ++ [(wr .u8 (wrap64 ((Int.tmod b0 128) + 128)))]), ())
      else
       none
    else
     if (((List.length b1 + List.length [(wr .u8 b0)] : Nat) : Int) * ((1 : Nat) : Int)) ≤ 140737488355328 then some (bstr (b1 ++ [(wr .u8 b0)])) else none
def spec_l01Var_ (k : Nat) : Int → Option (ByteArray)
  | a0 =>
  spec_l01Var_L2 k (a0, ([] : List Int), ())
noncomputable def g_spec_l01Var : Int → Option (ByteArray) := evG (spec_l01Var_ )
theorem e_spec_l01Var : ∀ x b, g_spec_l01Var x = some b → ∃ k, spec_l01Var_  k x = some b := evG_e _
/- spec_l01In -/
def con_spec_l01In (f : Nat → Int × Int × Int → Option (Bool)) : Con := ⟨[.c (.int .i64), .c (.int .i64), .c (.int .i64)], 1, [.v false [.bool]], f⟩
def spec_l01In_ (k : Nat) : Int × Int × Int → Option (Bool)
  | (a0, a1, a2) =>
  if a1 ≤ a0 then
   some (decide (a0 ≤ a2))
  else
   some false
noncomputable def g_spec_l01In : Int × Int × Int → Option (Bool) := spec_l01In_  0
theorem e_spec_l01In : ∀ x b, g_spec_l01In x = some b → ∃ k, spec_l01In_  k x = some b := fun x b h => ⟨0, h⟩
/- spec_OrderOk -/
def con_spec_OrderOk (f : Nat → (Int × Int × Int × Int) → Option (Bool)) : Con := ⟨[.agg [.int .i64, .int .i64, .int .i64, .int .i64]], 1, [.v false [.bool]], f⟩
def spec_OrderOk_ (spec_l01In : Nat → Int × Int × Int → Option (Bool)) (k : Nat) : (Int × Int × Int × Int) → Option (Bool)
  | (a0, a1, a2, a3) =>
  if a0 = 1 then
   (spec_l01In k (a2, (1, 1000))).bind fun v0 =>
   if v0 = true then
    (spec_l01In k (a1, (1, 1000))).bind fun v1 =>
    if v1 = true then
     if a1 ≤ (wrap64 (3 * a2)) then
      (spec_l01In k (a3, (1, 5000))).bind fun v2 =>
      some v2
     else
      some false
    else
     some false
   else
    some false
  else
   if a0 = 2 then
    (spec_l01In k (a3, (1, 100))).bind fun v3 =>
    if v3 = true then
     if a1 = 0 then
      some (decide (a2 = 0))
     else
      some false
    else
     some false
   else
    (spec_l01In k (a0, (3, 6))).bind fun v4 =>
    if v4 = true then
     if a1 = 0 then
      if a2 = 0 then
       some (decide (a3 = 0))
      else
       some false
     else
      some false
    else
     some false
noncomputable def g_spec_OrderOk : (Int × Int × Int × Int) → Option (Bool) := spec_OrderOk_ (fun _ => g_spec_l01In) 0
theorem e_spec_OrderOk : ∀ x b, g_spec_OrderOk x = some b → ∃ k, spec_OrderOk_ (fun _ => g_spec_l01In) k x = some b := fun x b h => ⟨0, h⟩
/- spec_OrderText -/
def con_spec_OrderText (f : Nat → (Int × Int × Int × Int) → Option (ByteArray × Bool)) : Con := ⟨[.agg [.int .i64, .int .i64, .int .i64, .int .i64]], 2, [.v false [.str], .v false [.bool]], f⟩
def spec_OrderText_ (spec_OrderOk : Nat → (Int × Int × Int × Int) → Option (Bool)) (spec_Sealed : Nat → ByteArray → Option (ByteArray × Bool)) (spec_l01Var : Nat → Int → Option (ByteArray)) (k : Nat) : (Int × Int × Int × Int) → Option (ByteArray × Bool)
  | (a0, a1, a2, a3) =>
  (spec_OrderOk k (a0, (a1, (a2, a3)))).bind fun v0 =>
  if v0 = true then
   (spec_l01Var k a1).bind fun v1 =>
   (spec_l01Var k a2).bind fun v2 =>
   (spec_l01Var k a3).bind fun v3 =>
   if ((ByteArray.size (bstr [(wr .u8 a0)]) + ByteArray.size v1 : Nat) : Int) ≤ 9223372036854775807 then
    if ((ByteArray.size ((bstr [(wr .u8 a0)]) ++ v1) + ByteArray.size v2 : Nat) : Int) ≤ 9223372036854775807 then
     if ((ByteArray.size (((bstr [(wr .u8 a0)]) ++ v1) ++ v2) + ByteArray.size v3 : Nat) : Int) ≤ 9223372036854775807 then (spec_Sealed k ((((bstr [(wr .u8 a0)]) ++ v1) ++ v2) ++ v3)).bind fun v4 =>
      some v4 else none
    else
     none
   else
    none
  else
   some ((⟨#[]⟩ : ByteArray), false)
noncomputable def g_spec_OrderText : (Int × Int × Int × Int) → Option (ByteArray × Bool) := spec_OrderText_ (fun _ => g_spec_OrderOk) (fun _ => g_spec_Sealed) (fun _ => g_spec_l01Var) 0
theorem e_spec_OrderText : ∀ x b, g_spec_OrderText x = some b → ∃ k, spec_OrderText_ (fun _ => g_spec_OrderOk) (fun _ => g_spec_Sealed) (fun _ => g_spec_l01Var) k x = some b := fun x b h => ⟨0, h⟩
/- laws_eqIn -/
def con_laws_eqIn (f : Nat → (Int × ByteArray × ByteArray) × (Int × ByteArray × ByteArray) → Option (Bool)) : Con := ⟨[.agg [.int .i64, .str, .str], .agg [.int .i64, .str, .str]], 1, [.v false [.bool]], f⟩
def laws_eqIn_ (k : Nat) : (Int × ByteArray × ByteArray) × (Int × ByteArray × ByteArray) → Option (Bool)
  | ((a0, a1, a2), (a3, a4, a5)) =>
  if a0 = a3 then
   if a1 = a4 then
    if a2 = a5 then
     some true
    else
     some false
   else
    some false
  else
   some false
noncomputable def g_laws_eqIn : (Int × ByteArray × ByteArray) × (Int × ByteArray × ByteArray) → Option (Bool) := laws_eqIn_  0
theorem e_laws_eqIn : ∀ x b, g_laws_eqIn x = some b → ∃ k, laws_eqIn_  k x = some b := fun x b h => ⟨0, h⟩
/- laws_eqInS -/
def con_laws_eqInS (f : Nat → ((List (Int × (ByteArray × ByteArray)))) × ((List (Int × (ByteArray × ByteArray)))) → Option (Bool)) : Con := ⟨[.c (.sl (.pair (.int .i64) (.pair .str .str))), .c (.sl (.pair (.int .i64) (.pair .str .str)))], 1, [.v false [.bool]], f⟩
def laws_eqInS_L4 (laws_eqIn : Nat → (Int × ByteArray × ByteArray) × (Int × ByteArray × ByteArray) → Option (Bool)) : Nat → Int × (List (Int × (ByteArray × ByteArray))) × (List (Int × (ByteArray × ByteArray))) × Unit → Option (Bool)
  | 0, _ => none
  | k + 1, (b0, b1, b2, ()) =>
    if b0 < ((List.length b1 : Nat) : Int) then
     if 0 ≤ b0 then
      if b0 < ((List.length b1 : Nat) : Int) then
       if 0 ≤ b0 then
        if b0 < ((List.length b2 : Nat) : Int) then (laws_eqIn k ((List.getD b1 (Int.toNat b0) (0, ((⟨#[]⟩ : ByteArray), (⟨#[]⟩ : ByteArray)))), (List.getD b2 (Int.toNat b0) (0, ((⟨#[]⟩ : ByteArray), (⟨#[]⟩ : ByteArray)))))).bind fun v0 =>
         if v0 = true then
          laws_eqInS_L4 laws_eqIn k ((wrap64 (b0 + 1)), b1, b2, ())
         else
          some false else none
       else
        none
      else
       none
     else
      none
    else
     some true
def laws_eqInS_ (laws_eqIn : Nat → (Int × ByteArray × ByteArray) × (Int × ByteArray × ByteArray) → Option (Bool)) (k : Nat) : ((List (Int × (ByteArray × ByteArray)))) × ((List (Int × (ByteArray × ByteArray)))) → Option (Bool)
  | (a0, a1) =>
  if ((List.length a0 : Nat) : Int) = ((List.length a1 : Nat) : Int) then
   laws_eqInS_L4 laws_eqIn k (0, a0, a1, ())
  else
   some false
noncomputable def g_laws_eqInS : ((List (Int × (ByteArray × ByteArray)))) × ((List (Int × (ByteArray × ByteArray)))) → Option (Bool) := evG (laws_eqInS_ (fun _ => g_laws_eqIn))
theorem e_laws_eqInS : ∀ x b, g_laws_eqInS x = some b → ∃ k, laws_eqInS_ (fun _ => g_laws_eqIn) k x = some b := evG_e _
/- laws_toIn -/
def con_laws_toIn (f : Nat → (Int × ByteArray × ByteArray) → Option ((Int × ByteArray × ByteArray))) : Con := ⟨[.agg [.int .i64, .str, .str]], 1, [.v true [.int .i64, .str, .str]], f⟩
def laws_toIn_ (k : Nat) : (Int × ByteArray × ByteArray) → Option ((Int × ByteArray × ByteArray))
  | (a0, a1, a2) =>
  some (a0, (a1, a2))
noncomputable def g_laws_toIn : (Int × ByteArray × ByteArray) → Option ((Int × ByteArray × ByteArray)) := laws_toIn_  0
theorem e_laws_toIn : ∀ x b, g_laws_toIn x = some b → ∃ k, laws_toIn_  k x = some b := fun x b h => ⟨0, h⟩
/- laws_toInS -/
def con_laws_toInS (f : Nat → ((List (Int × (ByteArray × ByteArray)))) → Option (((List (Int × (ByteArray × ByteArray)))))) : Con := ⟨[.c (.sl (.pair (.int .i64) (.pair .str .str)))], 1, [.v false [.own (.pair (.int .i64) (.pair .str .str)) 31]], f⟩
def laws_toInS_L3 (laws_toIn : Nat → (Int × ByteArray × ByteArray) → Option ((Int × ByteArray × ByteArray))) : Nat → Int × (List (Int × (ByteArray × ByteArray))) × (List (Int × (ByteArray × ByteArray))) × Unit → Option (((List (Int × (ByteArray × ByteArray)))))
  | 0, _ => none
  | k + 1, (b0, b1, b2, ()) =>
    if b0 < ((List.length b1 : Nat) : Int) then
     if 0 ≤ b0 then
      if b0 < ((List.length b1 : Nat) : Int) then (laws_toIn k (List.getD b1 (Int.toNat b0) (0, ((⟨#[]⟩ : ByteArray), (⟨#[]⟩ : ByteArray))))).bind fun v0 =>
       if 0 ≤ b0 then
        if b0 < ((List.length b2 : Nat) : Int) then laws_toInS_L3 laws_toIn k ((wrap64 (b0 + 1)), b1, (List.set b2 (Int.toNat b0) v0), ()) else none
       else
        none else none
     else
      none
    else
     some b2
def laws_toInS_ (laws_toIn : Nat → (Int × ByteArray × ByteArray) → Option ((Int × ByteArray × ByteArray))) (k : Nat) : ((List (Int × (ByteArray × ByteArray)))) → Option (((List (Int × (ByteArray × ByteArray)))))
  | a0 =>
  if ((List.length a0 : Nat) : Int) = ((List.length a0 : Nat) : Int) then
   if 0 ≤ ((List.length a0 : Nat) : Int) then
    if (((List.length a0 : Nat) : Int) * ((40 : Nat) : Int)) ≤ 140737488355328 then laws_toInS_L3 laws_toIn k (0, a0, (List.replicate (Int.toNat ((List.length a0 : Nat) : Int)) (0, ((⟨#[]⟩ : ByteArray), (⟨#[]⟩ : ByteArray)))), ()) else none
   else
    none
  else
   none
noncomputable def g_laws_toInS : ((List (Int × (ByteArray × ByteArray)))) → Option (((List (Int × (ByteArray × ByteArray))))) := evG (laws_toInS_ (fun _ => g_laws_toIn))
theorem e_laws_toInS : ∀ x b, g_laws_toInS x = some b → ∃ k, laws_toInS_ (fun _ => g_laws_toIn) k x = some b := evG_e _
/- laws_eqTick -/
def con_laws_eqTick (f : Nat → (Int × Int × Int) × (Int × Int × Int) → Option (Bool)) : Con := ⟨[.agg [.int .i64, .int .i64, .int .i64], .agg [.int .i64, .int .i64, .int .i64]], 1, [.v false [.bool]], f⟩
def laws_eqTick_ (k : Nat) : (Int × Int × Int) × (Int × Int × Int) → Option (Bool)
  | ((a0, a1, a2), (a3, a4, a5)) =>
  if a0 = a3 then
   if a1 = a4 then
    if a2 = a5 then
     some true
    else
     some false
   else
    some false
  else
   some false
noncomputable def g_laws_eqTick : (Int × Int × Int) × (Int × Int × Int) → Option (Bool) := laws_eqTick_  0
theorem e_laws_eqTick : ∀ x b, g_laws_eqTick x = some b → ∃ k, laws_eqTick_  k x = some b := fun x b h => ⟨0, h⟩
/- laws_eqTickS -/
def con_laws_eqTickS (f : Nat → ((List (Int × (Int × Int)))) × ((List (Int × (Int × Int)))) → Option (Bool)) : Con := ⟨[.c (.sl (.pair (.int .i64) (.pair (.int .i64) (.int .i64)))), .c (.sl (.pair (.int .i64) (.pair (.int .i64) (.int .i64))))], 1, [.v false [.bool]], f⟩
def laws_eqTickS_L4 (laws_eqTick : Nat → (Int × Int × Int) × (Int × Int × Int) → Option (Bool)) : Nat → Int × (List (Int × (Int × Int))) × (List (Int × (Int × Int))) × Unit → Option (Bool)
  | 0, _ => none
  | k + 1, (b0, b1, b2, ()) =>
    if b0 < ((List.length b1 : Nat) : Int) then
     if 0 ≤ b0 then
      if b0 < ((List.length b1 : Nat) : Int) then
       if 0 ≤ b0 then
        if b0 < ((List.length b2 : Nat) : Int) then (laws_eqTick k ((List.getD b1 (Int.toNat b0) (0, (0, 0))), (List.getD b2 (Int.toNat b0) (0, (0, 0))))).bind fun v0 =>
         if v0 = true then
          laws_eqTickS_L4 laws_eqTick k ((wrap64 (b0 + 1)), b1, b2, ())
         else
          some false else none
       else
        none
      else
       none
     else
      none
    else
     some true
def laws_eqTickS_ (laws_eqTick : Nat → (Int × Int × Int) × (Int × Int × Int) → Option (Bool)) (k : Nat) : ((List (Int × (Int × Int)))) × ((List (Int × (Int × Int)))) → Option (Bool)
  | (a0, a1) =>
  if ((List.length a0 : Nat) : Int) = ((List.length a1 : Nat) : Int) then
   laws_eqTickS_L4 laws_eqTick k (0, a0, a1, ())
  else
   some false
noncomputable def g_laws_eqTickS : ((List (Int × (Int × Int)))) × ((List (Int × (Int × Int)))) → Option (Bool) := evG (laws_eqTickS_ (fun _ => g_laws_eqTick))
theorem e_laws_eqTickS : ∀ x b, g_laws_eqTickS x = some b → ∃ k, laws_eqTickS_ (fun _ => g_laws_eqTick) k x = some b := evG_e _
/- laws_toTick -/
def con_laws_toTick (f : Nat → (Int × Int × Int) → Option ((Int × Int × Int))) : Con := ⟨[.agg [.int .i64, .int .i64, .int .i64]], 1, [.v true [.int .i64, .int .i64, .int .i64]], f⟩
def laws_toTick_ (k : Nat) : (Int × Int × Int) → Option ((Int × Int × Int))
  | (a0, a1, a2) =>
  some (a0, (a1, a2))
noncomputable def g_laws_toTick : (Int × Int × Int) → Option ((Int × Int × Int)) := laws_toTick_  0
theorem e_laws_toTick : ∀ x b, g_laws_toTick x = some b → ∃ k, laws_toTick_  k x = some b := fun x b h => ⟨0, h⟩
/- laws_toTickS -/
def con_laws_toTickS (f : Nat → ((List (Int × (Int × Int)))) → Option (((List (Int × (Int × Int)))))) : Con := ⟨[.c (.sl (.pair (.int .i64) (.pair (.int .i64) (.int .i64))))], 1, [.v false [.own (.pair (.int .i64) (.pair (.int .i64) (.int .i64))) 96]], f⟩
def laws_toTickS_L3 (laws_toTick : Nat → (Int × Int × Int) → Option ((Int × Int × Int))) : Nat → Int × (List (Int × (Int × Int))) × (List (Int × (Int × Int))) × Unit → Option (((List (Int × (Int × Int)))))
  | 0, _ => none
  | k + 1, (b0, b1, b2, ()) =>
    if b0 < ((List.length b1 : Nat) : Int) then
     if 0 ≤ b0 then
      if b0 < ((List.length b1 : Nat) : Int) then (laws_toTick k (List.getD b1 (Int.toNat b0) (0, (0, 0)))).bind fun v0 =>
       if 0 ≤ b0 then
        if b0 < ((List.length b2 : Nat) : Int) then laws_toTickS_L3 laws_toTick k ((wrap64 (b0 + 1)), b1, (List.set b2 (Int.toNat b0) v0), ()) else none
       else
        none else none
     else
      none
    else
     some b2
def laws_toTickS_ (laws_toTick : Nat → (Int × Int × Int) → Option ((Int × Int × Int))) (k : Nat) : ((List (Int × (Int × Int)))) → Option (((List (Int × (Int × Int)))))
  | a0 =>
  if ((List.length a0 : Nat) : Int) = ((List.length a0 : Nat) : Int) then
   if 0 ≤ ((List.length a0 : Nat) : Int) then
    if (((List.length a0 : Nat) : Int) * ((24 : Nat) : Int)) ≤ 140737488355328 then laws_toTickS_L3 laws_toTick k (0, a0, (List.replicate (Int.toNat ((List.length a0 : Nat) : Int)) (0, (0, 0))), ()) else none
   else
    none
  else
   none
noncomputable def g_laws_toTickS : ((List (Int × (Int × Int)))) → Option (((List (Int × (Int × Int))))) := evG (laws_toTickS_ (fun _ => g_laws_toTick))
theorem e_laws_toTickS : ∀ x b, g_laws_toTickS x = some b → ∃ k, laws_toTickS_ (fun _ => g_laws_toTick) k x = some b := evG_e _
/- impl_Latched -/
def con_impl_Latched (f : Nat → ((List (Int × (Int × Int)))) × ((List (Int × (ByteArray × ByteArray)))) → Option (Bool)) : Con := ⟨[.c (.sl (.pair (.int .i64) (.pair (.int .i64) (.int .i64)))), .c (.sl (.pair (.int .i64) (.pair .str .str)))], 1, [.v false [.bool]], f⟩
def impl_Latched_L6 (impl_MenuNew : Nat → Unit → Option ((Int × Bool × Int × Int × ByteArray))) (impl_SenseOk : Nat → Int → Option (Bool)) (impl_isSeen : Nat → ((List (Int × (Int × (Int × Int))))) → Option (Bool)) (impl_ordersOf : Nat → (Int × Bool × Int × Int × ByteArray) × (Int × ByteArray × ByteArray) → Option ((Int × Bool × Int × Int × ByteArray) × ((List (Int × (Int × (Int × Int))))))) : Nat → Int × Int × Int × (List (Int × (Int × Int))) × (List (Int × (ByteArray × ByteArray))) × Int × Bool × Int × Int × ByteArray × Unit → Option (Bool)
  | 0, _ => none
  | k + 1, (b0, b1, b2, b3, b4, b5, b6, b7, b8, b9, ()) =>
    if b2 < b1 then
     if 0 ≤ b2 then
      if b2 < ((List.length b3 : Nat) : Int) then
       if 0 ≤ b2 then
        if b2 < ((List.length b4 : Nat) : Int) then (impl_ordersOf k ((b5, (b6, (b7, (b8, b9)))), (List.getD b4 (Int.toNat b2) (0, ((⟨#[]⟩ : ByteArray), (⟨#[]⟩ : ByteArray)))))).bind fun v0 =>
         if 0 ≤ b2 then
          if b2 < ((List.length b4 : Nat) : Int) then (impl_isSeen k v0.2).bind fun v1 =>
           if v1 = true then
            (impl_SenseOk k (List.getD b3 (Int.toNat b2) (0, (0, 0))).2.1).bind fun v2 =>
            if v2 = true then
             if 0 ≤ b2 then
              if b2 < ((List.length b4 : Nat) : Int) then (impl_SenseOk k (List.getD b4 (Int.toNat b2) (0, ((⟨#[]⟩ : ByteArray), (⟨#[]⟩ : ByteArray)))).1).bind fun v3 =>
               if v3 = true then
                if (iand .i64 (List.getD b3 (Int.toNat b2) (0, (0, 0))).2.1 (List.getD b4 (Int.toNat b2) (0, ((⟨#[]⟩ : ByteArray), (⟨#[]⟩ : ByteArray)))).1) = (List.getD b4 (Int.toNat b2) (0, ((⟨#[]⟩ : ByteArray), (⟨#[]⟩ : ByteArray)))).1 then
                 impl_Latched_L6 impl_MenuNew impl_SenseOk impl_isSeen impl_ordersOf k ((List.getD b3 (Int.toNat b2) (0, (0, 0))).2.1, b1, (wrap64 (b2 + 1)), b3, b4, v0.1.1, v0.1.2.1, v0.1.2.2.1, v0.1.2.2.2.1, v0.1.2.2.2.2, ())
                else
                 some false
               else
                some false else none
             else
              none
            else
             some false
           else
            (impl_SenseOk k (List.getD b3 (Int.toNat b2) (0, (0, 0))).2.1).bind fun v4 =>
            if v4 = true then
             if 0 ≤ b2 then
              if b2 < ((List.length b4 : Nat) : Int) then (impl_SenseOk k (List.getD b4 (Int.toNat b2) (0, ((⟨#[]⟩ : ByteArray), (⟨#[]⟩ : ByteArray)))).1).bind fun v5 =>
               if v5 = true then
                if (iand .i64 (List.getD b3 (Int.toNat b2) (0, (0, 0))).2.1 (ior .i64 (List.getD b4 (Int.toNat b2) (0, ((⟨#[]⟩ : ByteArray), (⟨#[]⟩ : ByteArray)))).1 b0)) = (ior .i64 (List.getD b4 (Int.toNat b2) (0, ((⟨#[]⟩ : ByteArray), (⟨#[]⟩ : ByteArray)))).1 b0) then
                 impl_Latched_L6 impl_MenuNew impl_SenseOk impl_isSeen impl_ordersOf k ((List.getD b3 (Int.toNat b2) (0, (0, 0))).2.1, b1, (wrap64 (b2 + 1)), b3, b4, v0.1.1, v0.1.2.1, v0.1.2.2.1, v0.1.2.2.2.1, v0.1.2.2.2.2, ())
                else
                 some false
               else
                some false else none
             else
              none
            else
             some false else none
         else
          none else none
       else
        none
      else
       none
     else
      none
    else
     some true
def impl_Latched_ (impl_MenuNew : Nat → Unit → Option ((Int × Bool × Int × Int × ByteArray))) (impl_SenseOk : Nat → Int → Option (Bool)) (impl_isSeen : Nat → ((List (Int × (Int × (Int × Int))))) → Option (Bool)) (impl_ordersOf : Nat → (Int × Bool × Int × Int × ByteArray) × (Int × ByteArray × ByteArray) → Option ((Int × Bool × Int × Int × ByteArray) × ((List (Int × (Int × (Int × Int))))))) (k : Nat) : ((List (Int × (Int × Int)))) × ((List (Int × (ByteArray × ByteArray)))) → Option (Bool)
  | (a0, a1) =>
  if ((List.length a0 : Nat) : Int) = ((List.length a1 : Nat) : Int) then
   (impl_MenuNew k ()).bind fun v0 =>
   impl_Latched_L6 impl_MenuNew impl_SenseOk impl_isSeen impl_ordersOf k (0, ((List.length a0 : Nat) : Int), 0, a0, a1, v0.1, v0.2.1, v0.2.2.1, v0.2.2.2.1, v0.2.2.2.2, ())
  else
   some false
noncomputable def g_impl_Latched : ((List (Int × (Int × Int)))) × ((List (Int × (ByteArray × ByteArray)))) → Option (Bool) := evG (impl_Latched_ (fun _ => g_impl_MenuNew) (fun _ => g_impl_SenseOk) (fun _ => g_impl_isSeen) (fun _ => g_impl_ordersOf))
theorem e_impl_Latched : ∀ x b, g_impl_Latched x = some b → ∃ k, impl_Latched_ (fun _ => g_impl_MenuNew) (fun _ => g_impl_SenseOk) (fun _ => g_impl_isSeen) (fun _ => g_impl_ordersOf) k x = some b := evG_e _
/- spec_l13Both -/
def con_spec_l13Both (f : Nat → Int × Int → Option (Int)) : Con := ⟨[.c (.int .i64), .c (.int .i64)], 1, [.v false [.int .i64]], f⟩
def spec_l13Both_L4 : Nat → Int × Int × Int × Int × Int × Unit → Option (Int)
  | 0, _ => none
  | k + 1, (b0, b1, b2, b3, b4, ()) =>
    if b4 < 4 then
     if b3 = 0 then
      none
     else
      if 2 = 0 then
       none
      else
       if (Int.tmod (wrap64 (Int.tdiv b0 b3)) 2) = 1 then
        spec_l13Both_L4 k (b0, b1, (wrap64 (b2 + b3)), (wrap64 (2 * b3)), (wrap64 (b4 + 1)), ())
       else
        if b3 = 0 then
         none
        else
         if 2 = 0 then
          none
         else
          if (Int.tmod (wrap64 (Int.tdiv b1 b3)) 2) = 1 then
           spec_l13Both_L4 k (b0, b1, (wrap64 (b2 + b3)), (wrap64 (2 * b3)), (wrap64 (b4 + 1)), ())
          else
           spec_l13Both_L4 k (b0, b1, b2, (wrap64 (2 * b3)), (wrap64 (b4 + 1)), ())
    else
     some b2
def spec_l13Both_ (k : Nat) : Int × Int → Option (Int)
  | (a0, a1) =>
  spec_l13Both_L4 k (a0, a1, 0, 1, 0, ())
noncomputable def g_spec_l13Both : Int × Int → Option (Int) := evG (spec_l13Both_ )
theorem e_spec_l13Both : ∀ x b, g_spec_l13Both x = some b → ∃ k, spec_l13Both_  k x = some b := evG_e _
/- spec_SenseOk -/
def con_spec_SenseOk (f : Nat → Int → Option (Bool)) : Con := ⟨[.c (.int .i64)], 1, [.v false [.bool]], f⟩
def spec_SenseOk_ (spec_l01In : Nat → Int × Int × Int → Option (Bool)) (k : Nat) : Int → Option (Bool)
  | a0 =>
  (spec_l01In k (a0, (0, 15))).bind fun v0 =>
  some v0
noncomputable def g_spec_SenseOk : Int → Option (Bool) := spec_SenseOk_ (fun _ => g_spec_l01In) 0
theorem e_spec_SenseOk : ∀ x b, g_spec_SenseOk x = some b → ∃ k, spec_SenseOk_ (fun _ => g_spec_l01In) k x = some b := fun x b h => ⟨0, h⟩
/- spec_ReadVar -/
def con_spec_ReadVar (f : Nat → ByteArray × Int → Option (Int × Int × Bool)) : Con := ⟨[.c (.str), .c (.int .i64)], 3, [.v false [.int .i64], .v false [.int .i64], .v false [.bool]], f⟩
def spec_ReadVar_L6 (spec_l01In : Nat → Int × Int × Int → Option (Bool)) (spec_l01Var : Nat → Int → Option (ByteArray)) : Nat → ByteArray × Int × Int × Int × Int × Unit → Option (Int × Int × Bool)
  | 0, _ => none
  | k + 1, (b0, b1, b2, b3, b4, ()) =>
    if b4 < ((ByteArray.size b0 : Nat) : Int) then
     if b4 < (wrap64 (b1 + 5)) then
      if 0 ≤ b4 then
       if b4 < ((ByteArray.size b0 : Nat) : Int) then
        if 128 = 0 then
         none
        else
         if 0 ≤ b4 then
          if b4 < ((ByteArray.size b0 : Nat) : Int) then
           if (byt b0 b4) < 128 then
            if 1000000000 < (wrap64 (b2 + (wrap64 ((Int.tmod (wrap64 (byt b0 b4)) 128) * b3)))) then
             some (0, (0, false))
            else
             if 0 ≤ (wrap64 (b4 + 1)) then
              if (wrap64 (b4 + 1)) ≤ ((ByteArray.size b0 : Nat) : Int) then
               if 0 ≤ b1 then
                if b1 ≤ (wrap64 (b4 + 1)) then (spec_l01Var k (wrap64 (b2 + (wrap64 ((Int.tmod (wrap64 (byt b0 b4)) 128) * b3))))).bind fun v0 =>
                 if v0 = (ByteArray.extract b0 (Int.toNat b1) (Int.toNat (wrap64 (b4 + 1)))) then
                  some ((wrap64 (b2 + (wrap64 ((Int.tmod (wrap64 (byt b0 b4)) 128) * b3)))), ((wrap64 (b4 + 1)), true))
                 else
                  some (0, (0, false)) else none
               else
                none
              else
               none
             else
              none
           else
            spec_ReadVar_L6 spec_l01In spec_l01Var k (b0, b1, (wrap64 (b2 + (wrap64 ((Int.tmod (wrap64 (byt b0 b4)) 128) * b3)))), (wrap64 (b3 * 128)), (wrap64 (b4 + 1)), ())
          else
           none
         else
          none
       else
        none
      else
       none
     else
      some (0, (0, false))
    else
     some (0, (0, false))
def spec_ReadVar_ (spec_l01In : Nat → Int × Int × Int → Option (Bool)) (spec_l01Var : Nat → Int → Option (ByteArray)) (k : Nat) : ByteArray × Int → Option (Int × Int × Bool)
  | (a0, a1) =>
  (spec_l01In k (a1, (0, ((ByteArray.size a0 : Nat) : Int)))).bind fun v0 =>
  if v0 = true then
   spec_ReadVar_L6 spec_l01In spec_l01Var k (a0, a1, 0, 1, a1, ())
  else
   some (0, (0, false))
noncomputable def g_spec_ReadVar : ByteArray × Int → Option (Int × Int × Bool) := evG (spec_ReadVar_ (fun _ => g_spec_l01In) (fun _ => g_spec_l01Var))
theorem e_spec_ReadVar : ∀ x b, g_spec_ReadVar x = some b → ∃ k, spec_ReadVar_ (fun _ => g_spec_l01In) (fun _ => g_spec_l01Var) k x = some b := evG_e _
/- spec_l11Var -/
def con_spec_l11Var (f : Nat → (ByteArray × Int × Bool) → Option (Int × (ByteArray × Int × Bool))) : Con := ⟨[.ptr [.str, .int .i64, .bool] 200], 1, [.v false [.int .i64], .box [.str, .int .i64, .bool] 200], f⟩
def spec_l11Var_ (spec_ReadVar : Nat → ByteArray × Int → Option (Int × Int × Bool)) (k : Nat) : (ByteArray × Int × Bool) → Option (Int × (ByteArray × Int × Bool))
  | (a0, a1, a2) =>
  (spec_ReadVar k (a0, a1)).bind fun v0 =>
  if a2 = true then
   some (0, (a0, (a1, true)))
  else
   if v0.2.2 = true then
    some (v0.1, (a0, (v0.2.1, a2)))
   else
    some (0, (a0, (a1, true)))
noncomputable def g_spec_l11Var : (ByteArray × Int × Bool) → Option (Int × (ByteArray × Int × Bool)) := spec_l11Var_ (fun _ => g_spec_ReadVar) 0
theorem e_spec_l11Var : ∀ x b, g_spec_l11Var x = some b → ∃ k, spec_l11Var_ (fun _ => g_spec_ReadVar) k x = some b := fun x b h => ⟨0, h⟩
/- spec_Unsealed -/
def con_spec_Unsealed (f : Nat → ByteArray → Option (ByteArray × Bool)) : Con := ⟨[.c (.str)], 2, [.v false [.str], .v false [.bool]], f⟩
def spec_Unsealed_ (spec_SumOf : Nat → ByteArray → Option (Int)) (spec_l02Four : Nat → Int → Option (ByteArray)) (k : Nat) : ByteArray → Option (ByteArray × Bool)
  | a0 =>
  if (wrap64 (((ByteArray.size a0 : Nat) : Int) - 4)) < 0 then
   some ((⟨#[]⟩ : ByteArray), false)
  else
   if 20000 < (wrap64 (((ByteArray.size a0 : Nat) : Int) - 4)) then
    some ((⟨#[]⟩ : ByteArray), false)
   else
    if 0 ≤ (wrap64 (((ByteArray.size a0 : Nat) : Int) - 4)) then
     if (wrap64 (((ByteArray.size a0 : Nat) : Int) - 4)) ≤ ((ByteArray.size a0 : Nat) : Int) then
      if 0 ≤ (wrap64 (((ByteArray.size a0 : Nat) : Int) - 4)) then
       if (wrap64 (((ByteArray.size a0 : Nat) : Int) - 4)) ≤ ((ByteArray.size a0 : Nat) : Int) then (spec_SumOf k (ByteArray.extract a0 (Int.toNat 0) (Int.toNat (wrap64 (((ByteArray.size a0 : Nat) : Int) - 4))))).bind fun v0 =>
        (spec_l02Four k v0).bind fun v1 =>
        if (ByteArray.extract a0 (Int.toNat (wrap64 (((ByteArray.size a0 : Nat) : Int) - 4))) (Int.toNat ((ByteArray.size a0 : Nat) : Int))) = v1 then
         if 0 ≤ (wrap64 (((ByteArray.size a0 : Nat) : Int) - 4)) then
          if (wrap64 (((ByteArray.size a0 : Nat) : Int) - 4)) ≤ ((ByteArray.size a0 : Nat) : Int) then some ((ByteArray.extract a0 (Int.toNat 0) (Int.toNat (wrap64 (((ByteArray.size a0 : Nat) : Int) - 4)))), true) else none
         else
          none
        else
         some ((⟨#[]⟩ : ByteArray), false) else none
      else
       none
     else
      none
    else
     none
noncomputable def g_spec_Unsealed : ByteArray → Option (ByteArray × Bool) := spec_Unsealed_ (fun _ => g_spec_SumOf) (fun _ => g_spec_l02Four) 0
theorem e_spec_Unsealed : ∀ x b, g_spec_Unsealed x = some b → ∃ k, spec_Unsealed_ (fun _ => g_spec_SumOf) (fun _ => g_spec_l02Four) k x = some b := fun x b h => ⟨0, h⟩
/- spec_ReadOrder -/
def con_spec_ReadOrder (f : Nat → ByteArray → Option ((Int × Int × Int × Int) × Bool)) : Con := ⟨[.c (.str)], 2, [.v true [.int .i64, .int .i64, .int .i64, .int .i64], .v false [.bool]], f⟩
def spec_ReadOrder_ (spec_OrderText : Nat → (Int × Int × Int × Int) → Option (ByteArray × Bool)) (spec_Unsealed : Nat → ByteArray → Option (ByteArray × Bool)) (spec_l11Var : Nat → (ByteArray × Int × Bool) → Option (Int × (ByteArray × Int × Bool))) (k : Nat) : ByteArray → Option ((Int × Int × Int × Int) × Bool)
  | a0 =>
  (spec_Unsealed k a0).bind fun v0 =>
  if v0.2 = true then
   if ((ByteArray.size v0.1 : Nat) : Int) < 1 then
    some ((0, (0, (0, 0))), false)
   else
    if 0 ≤ 0 then
     if 0 < ((ByteArray.size v0.1 : Nat) : Int) then (spec_l11Var k (v0.1, (1, false))).bind fun v1 =>
      (spec_l11Var k v1.2).bind fun v2 =>
      (spec_l11Var k v2.2).bind fun v3 =>
      (spec_OrderText k ((wrap64 (byt v0.1 0)), (v1.1, (v2.1, v3.1)))).bind fun v4 =>
      if v3.2.2.2 = true then
       some ((0, (0, (0, 0))), false)
      else
       if v4.2 = true then
        if v4.1 = a0 then
         some (((wrap64 (byt v0.1 0)), (v1.1, (v2.1, v3.1))), true)
        else
         some ((0, (0, (0, 0))), false)
       else
        some ((0, (0, (0, 0))), false) else none
    else
     none
  else
   some ((0, (0, (0, 0))), false)
noncomputable def g_spec_ReadOrder : ByteArray → Option ((Int × Int × Int × Int) × Bool) := spec_ReadOrder_ (fun _ => g_spec_OrderText) (fun _ => g_spec_Unsealed) (fun _ => g_spec_l11Var) 0
theorem e_spec_ReadOrder : ∀ x b, g_spec_ReadOrder x = some b → ∃ k, spec_ReadOrder_ (fun _ => g_spec_OrderText) (fun _ => g_spec_Unsealed) (fun _ => g_spec_l11Var) k x = some b := fun x b h => ⟨0, h⟩
/- spec_MenuNew -/
def con_spec_MenuNew (f : Nat → Unit → Option ((Int × Bool × Int × Int × ByteArray))) : Con := ⟨[], 1, [.v true [.int .i64, .bool, .int .i64, .int .i64, .str]], f⟩
def spec_MenuNew_ (k : Nat) : Unit → Option ((Int × Bool × Int × Int × ByteArray))
  | () =>
  some (1, (false, (0, (0, (⟨#[]⟩ : ByteArray)))))
noncomputable def g_spec_MenuNew : Unit → Option ((Int × Bool × Int × Int × ByteArray)) := spec_MenuNew_  0
theorem e_spec_MenuNew : ∀ x b, g_spec_MenuNew x = some b → ∃ k, spec_MenuNew_  k x = some b := fun x b h => ⟨0, h⟩
/- spec_l17Number -/
def con_spec_l17Number (f : Nat → ByteArray → Option (Int)) : Con := ⟨[.c (.str)], 1, [.v false [.int .i64]], f⟩
def spec_l17Number_L3 : Nat → ByteArray × Int × Int × Unit → Option (Int)
  | 0, _ => none
  | k + 1, (b0, b1, b2, ()) =>
    if b2 < ((ByteArray.size b0 : Nat) : Int) then
     if 0 ≤ b2 then
      if b2 < ((ByteArray.size b0 : Nat) : Int) then spec_l17Number_L3 k (b0, (wrap64 ((wrap64 (10 * b1)) + (wrap64 (wr .u8 ((byt b0 b2) - 48))))), (wrap64 (b2 + 1)), ()) else none
     else
      none
    else
     some b1
def spec_l17Number_ (k : Nat) : ByteArray → Option (Int)
  | a0 =>
  spec_l17Number_L3 k (a0, 0, 0, ())
noncomputable def g_spec_l17Number : ByteArray → Option (Int) := evG (spec_l17Number_ )
theorem e_spec_l17Number : ∀ x b, g_spec_l17Number x = some b → ∃ k, spec_l17Number_  k x = some b := evG_e _
/- spec_l17Top -/
def con_spec_l17Top (f : Nat → (Int × Bool × Int × Int × ByteArray) × Int → Option ((Int × Bool × Int × Int × ByteArray) × (Int × Int × Int × Int) × Bool)) : Con := ⟨[.agg [.int .i64, .bool, .int .i64, .int .i64, .str], .c (.int .i64)], 3, [.v true [.int .i64, .bool, .int .i64, .int .i64, .str], .v true [.int .i64, .int .i64, .int .i64, .int .i64], .v false [.bool]], f⟩
def spec_l17Top_ (k : Nat) : (Int × Bool × Int × Int × ByteArray) × Int → Option ((Int × Bool × Int × Int × ByteArray) × (Int × Int × Int × Int) × Bool)
  | ((a0, a1, a2, a3, a4), a5) =>
  if a5 = 98 then
   some ((2, (false, (0, (0, (⟨#[]⟩ : ByteArray))))), ((0, (0, (0, 0))), false))
  else
   if a5 = 111 then
    some ((4, (true, (0, (0, (⟨#[]⟩ : ByteArray))))), ((0, (0, (0, 0))), false))
   else
    if a5 = 112 then
     some ((a0, (a1, (a2, (a3, a4)))), ((3, (0, (0, 0))), true))
    else
     if a5 = 103 then
      some ((a0, (a1, (a2, (a3, a4)))), ((4, (0, (0, 0))), true))
     else
      if a5 = 115 then
       some ((a0, (a1, (a2, (a3, a4)))), ((5, (0, (0, 0))), true))
      else
       if a5 = 120 then
        some ((a0, (a1, (a2, (a3, a4)))), ((6, (0, (0, 0))), true))
       else
        some ((a0, (a1, (a2, (a3, a4)))), ((0, (0, (0, 0))), false))
noncomputable def g_spec_l17Top : (Int × Bool × Int × Int × ByteArray) × Int → Option ((Int × Bool × Int × Int × ByteArray) × (Int × Int × Int × Int) × Bool) := spec_l17Top_  0
theorem e_spec_l17Top : ∀ x b, g_spec_l17Top x = some b → ∃ k, spec_l17Top_  k x = some b := fun x b h => ⟨0, h⟩
/- spec_MenuOk -/
def con_spec_MenuOk (f : Nat → (Int × Bool × Int × Int × ByteArray) → Option (Bool)) : Con := ⟨[.agg [.int .i64, .bool, .int .i64, .int .i64, .str]], 1, [.v false [.bool]], f⟩
def spec_MenuOk_L4 (spec_l01In : Nat → Int × Int × Int → Option (Bool)) : Nat → Int × Int × Bool × Int × Int × ByteArray × Unit → Option (Bool)
  | 0, _ => none
  | k + 1, (b0, b1, b2, b3, b4, b5, ()) =>
    if b0 < ((ByteArray.size b5 : Nat) : Int) then
     if 0 ≤ b0 then
      if b0 < ((ByteArray.size b5 : Nat) : Int) then
       if (byt b5 b0) < 48 then
        some false
       else
        if 0 ≤ b0 then
         if b0 < ((ByteArray.size b5 : Nat) : Int) then
          if 57 < (byt b5 b0) then
           some false
          else
           spec_MenuOk_L4 spec_l01In k ((wrap64 (b0 + 1)), b1, b2, b3, b4, b5, ())
         else
          none
        else
         none
      else
       none
     else
      none
    else
     if b1 = 1 then
      if b5 = (⟨#[]⟩ : ByteArray) then
       if b2 = true then
        some false
       else
        if b3 = 0 then
         some (decide (b4 = 0))
        else
         some false
      else
       some false
     else
      some true
def spec_MenuOk_ (spec_l01In : Nat → Int × Int × Int → Option (Bool)) (k : Nat) : (Int × Bool × Int × Int × ByteArray) → Option (Bool)
  | (a0, a1, a2, a3, a4) =>
  (spec_l01In k (a0, (1, 4))).bind fun v0 =>
  if v0 = true then
   (spec_l01In k (a2, (0, 9999))).bind fun v1 =>
   if v1 = true then
    (spec_l01In k (a3, (0, 9999))).bind fun v2 =>
    if v2 = true then
     if 4 < ((ByteArray.size a4 : Nat) : Int) then
      some false
     else
      spec_MenuOk_L4 spec_l01In k (0, a0, a1, a2, a3, a4, ())
    else
     some false
   else
    some false
  else
   some false
noncomputable def g_spec_MenuOk : (Int × Bool × Int × Int × ByteArray) → Option (Bool) := evG (spec_MenuOk_ (fun _ => g_spec_l01In))
theorem e_spec_MenuOk : ∀ x b, g_spec_MenuOk x = some b → ∃ k, spec_MenuOk_ (fun _ => g_spec_l01In) k x = some b := evG_e _
/- spec_Press -/
def con_spec_Press (f : Nat → (Int × Bool × Int × Int × ByteArray) × Int → Option ((Int × Bool × Int × Int × ByteArray) × (Int × Int × Int × Int) × Bool)) : Con := ⟨[.agg [.int .i64, .bool, .int .i64, .int .i64, .str], .c (.int .i64)], 3, [.v true [.int .i64, .bool, .int .i64, .int .i64, .str], .v true [.int .i64, .int .i64, .int .i64, .int .i64], .v false [.bool]], f⟩
def spec_Press_ (spec_MenuNew : Nat → Unit → Option ((Int × Bool × Int × Int × ByteArray))) (spec_MenuOk : Nat → (Int × Bool × Int × Int × ByteArray) → Option (Bool)) (spec_OrderOk : Nat → (Int × Int × Int × Int) → Option (Bool)) (spec_l17Number : Nat → ByteArray → Option (Int)) (spec_l17Top : Nat → (Int × Bool × Int × Int × ByteArray) × Int → Option ((Int × Bool × Int × Int × ByteArray) × (Int × Int × Int × Int) × Bool)) (k : Nat) : (Int × Bool × Int × Int × ByteArray) × Int → Option ((Int × Bool × Int × Int × ByteArray) × (Int × Int × Int × Int) × Bool)
  | ((a0, a1, a2, a3, a4), a5) =>
  (spec_MenuOk k (a0, (a1, (a2, (a3, a4))))).bind fun v0 =>
  if v0 = true then
   if a0 = 1 then
    (spec_l17Top k ((a0, (a1, (a2, (a3, a4)))), a5)).bind fun v1 =>
    some v1
   else
    if 48 ≤ a5 then
     if a5 ≤ 57 then
      if ((ByteArray.size a4 : Nat) : Int) < 4 then
       if ((ByteArray.size a4 + ByteArray.size (bstr [(wr .u8 a5)]) : Nat) : Int) ≤ 9223372036854775807 then some ((a0, (a1, (a2, (a3, (a4 ++ (bstr [(wr .u8 a5)])))))), ((0, (0, (0, 0))), false)) else none
      else
       some ((a0, (a1, (a2, (a3, a4)))), ((0, (0, (0, 0))), false))
     else
      if a5 = 99 then
       (spec_MenuNew k ()).bind fun v2 =>
       some (v2, ((0, (0, (0, 0))), false))
      else
       if a5 = 10 then
        (spec_l17Number k a4).bind fun v3 =>
        if a0 = 2 then
         some ((3, (a1, (v3, (a3, (⟨#[]⟩ : ByteArray))))), ((0, (0, (0, 0))), false))
        else
         if a0 = 3 then
          some ((4, (a1, (a2, (v3, (⟨#[]⟩ : ByteArray))))), ((0, (0, (0, 0))), false))
         else
          if a1 = true then
           (spec_OrderOk k (2, (0, (0, v3)))).bind fun v4 =>
           if v4 = true then
            (spec_MenuNew k ()).bind fun v5 =>
            some (v5, ((2, (0, (0, v3))), true))
           else
            (spec_MenuNew k ()).bind fun v6 =>
            some (v6, ((0, (0, (0, 0))), false))
          else
           (spec_OrderOk k (1, (a2, (a3, v3)))).bind fun v7 =>
           if v7 = true then
            (spec_MenuNew k ()).bind fun v8 =>
            some (v8, ((1, (a2, (a3, v3))), true))
           else
            (spec_MenuNew k ()).bind fun v9 =>
            some (v9, ((0, (0, (0, 0))), false))
       else
        some ((a0, (a1, (a2, (a3, a4)))), ((0, (0, (0, 0))), false))
    else
     if a5 = 99 then
      (spec_MenuNew k ()).bind fun v10 =>
      some (v10, ((0, (0, (0, 0))), false))
     else
      if a5 = 10 then
       (spec_l17Number k a4).bind fun v11 =>
       if a0 = 2 then
        some ((3, (a1, (v11, (a3, (⟨#[]⟩ : ByteArray))))), ((0, (0, (0, 0))), false))
       else
        if a0 = 3 then
         some ((4, (a1, (a2, (v11, (⟨#[]⟩ : ByteArray))))), ((0, (0, (0, 0))), false))
        else
         if a1 = true then
          (spec_OrderOk k (2, (0, (0, v11)))).bind fun v12 =>
          if v12 = true then
           (spec_MenuNew k ()).bind fun v13 =>
           some (v13, ((2, (0, (0, v11))), true))
          else
           (spec_MenuNew k ()).bind fun v14 =>
           some (v14, ((0, (0, (0, 0))), false))
         else
          (spec_OrderOk k (1, (a2, (a3, v11)))).bind fun v15 =>
          if v15 = true then
           (spec_MenuNew k ()).bind fun v16 =>
           some (v16, ((1, (a2, (a3, v11))), true))
          else
           (spec_MenuNew k ()).bind fun v17 =>
           some (v17, ((0, (0, (0, 0))), false))
      else
       some ((a0, (a1, (a2, (a3, a4)))), ((0, (0, (0, 0))), false))
  else
   some ((a0, (a1, (a2, (a3, a4)))), ((0, (0, (0, 0))), false))
noncomputable def g_spec_Press : (Int × Bool × Int × Int × ByteArray) × Int → Option ((Int × Bool × Int × Int × ByteArray) × (Int × Int × Int × Int) × Bool) := spec_Press_ (fun _ => g_spec_MenuNew) (fun _ => g_spec_MenuOk) (fun _ => g_spec_OrderOk) (fun _ => g_spec_l17Number) (fun _ => g_spec_l17Top) 0
theorem e_spec_Press : ∀ x b, g_spec_Press x = some b → ∃ k, spec_Press_ (fun _ => g_spec_MenuNew) (fun _ => g_spec_MenuOk) (fun _ => g_spec_OrderOk) (fun _ => g_spec_l17Number) (fun _ => g_spec_l17Top) k x = some b := fun x b h => ⟨0, h⟩
/- spec_PressAll -/
def con_spec_PressAll (f : Nat → (Int × Bool × Int × Int × ByteArray) × ByteArray → Option ((Int × Bool × Int × Int × ByteArray) × ((List (Int × (Int × (Int × Int))))))) : Con := ⟨[.agg [.int .i64, .bool, .int .i64, .int .i64, .str], .c (.str)], 2, [.v true [.int .i64, .bool, .int .i64, .int .i64, .str], .v false [.own (.pair (.int .i64) (.pair (.int .i64) (.pair (.int .i64) (.int .i64)))) 27]], f⟩
def spec_PressAll_L3 (spec_Press : Nat → (Int × Bool × Int × Int × ByteArray) × Int → Option ((Int × Bool × Int × Int × ByteArray) × (Int × Int × Int × Int) × Bool)) : Nat → ByteArray × Int × Int × Bool × Int × Int × ByteArray × Int × Bool × Int × Int × ByteArray × (List (Int × (Int × (Int × Int)))) × Unit → Option ((Int × Bool × Int × Int × ByteArray) × ((List (Int × (Int × (Int × Int))))))
  | 0, _ => none
  | k + 1, (b0, b1, b2, b3, b4, b5, b6, b7, b8, b9, b10, b11, b12, ()) =>
    if b1 < ((ByteArray.size b0 : Nat) : Int) then
     if 0 ≤ b1 then
      if b1 < ((ByteArray.size b0 : Nat) : Int) then (spec_Press k ((b2, (b3, (b4, (b5, b6)))), (wrap64 (byt b0 b1)))).bind fun v0 =>
       if v0.2.2 = true then
        if (((List.length b12 + List.length [v0.2.1] : Nat) : Int) * ((32 : Nat) : Int)) ≤ 140737488355328 then spec_PressAll_L3 spec_Press k (b0, (wrap64 (b1 + 1)), v0.1.1, v0.1.2.1, v0.1.2.2.1, v0.1.2.2.2.1, v0.1.2.2.2.2, b7, b8, b9, b10, b11, (b12 ++ [v0.2.1]), ()) else none
       else
        spec_PressAll_L3 spec_Press k (b0, (wrap64 (b1 + 1)), v0.1.1, v0.1.2.1, v0.1.2.2.1, v0.1.2.2.2.1, v0.1.2.2.2.2, b7, b8, b9, b10, b11, b12, ()) else none
     else
      none
    else
     some ((b2, (b3, (b4, (b5, b6)))), b12)
def spec_PressAll_ (spec_Press : Nat → (Int × Bool × Int × Int × ByteArray) × Int → Option ((Int × Bool × Int × Int × ByteArray) × (Int × Int × Int × Int) × Bool)) (k : Nat) : (Int × Bool × Int × Int × ByteArray) × ByteArray → Option ((Int × Bool × Int × Int × ByteArray) × ((List (Int × (Int × (Int × Int))))))
  | ((a0, a1, a2, a3, a4), a5) =>
  spec_PressAll_L3 spec_Press k (a5, 0, a0, a1, a2, a3, a4, 0, false, 0, 0, (⟨#[]⟩ : ByteArray), ([] : List (Int × (Int × (Int × Int)))), ())
noncomputable def g_spec_PressAll : (Int × Bool × Int × Int × ByteArray) × ByteArray → Option ((Int × Bool × Int × Int × ByteArray) × ((List (Int × (Int × (Int × Int)))))) := evG (spec_PressAll_ (fun _ => g_spec_Press))
theorem e_spec_PressAll : ∀ x b, g_spec_PressAll x = some b → ∃ k, spec_PressAll_ (fun _ => g_spec_Press) k x = some b := evG_e _
/- spec_Latched -/
def con_spec_Latched (f : Nat → ((List (Int × (Int × Int)))) × ((List (Int × (ByteArray × ByteArray)))) → Option (Bool)) : Con := ⟨[.c (.sl (.pair (.int .i64) (.pair (.int .i64) (.int .i64)))), .c (.sl (.pair (.int .i64) (.pair .str .str)))], 1, [.v false [.bool]], f⟩
mutual
def spec_Latched_L6 (spec_MenuNew : Nat → Unit → Option ((Int × Bool × Int × Int × ByteArray))) (spec_PressAll : Nat → (Int × Bool × Int × Int × ByteArray) × ByteArray → Option ((Int × Bool × Int × Int × ByteArray) × ((List (Int × (Int × (Int × Int))))))) (spec_ReadOrder : Nat → ByteArray → Option ((Int × Int × Int × Int) × Bool)) (spec_SenseOk : Nat → Int → Option (Bool)) (spec_l13Both : Nat → Int × Int → Option (Int)) : Nat → Int × Int × (List (Int × (Int × Int))) × (List (Int × (ByteArray × ByteArray))) × Int × Bool × Int × Int × ByteArray × Unit → Option (Bool)
  | 0, _ => none
  | k + 1, (b0, b1, b2, b3, b4, b5, b6, b7, b8, ()) =>
    if b1 < ((List.length b2 : Nat) : Int) then
     if 0 ≤ b1 then
      if b1 < ((List.length b3 : Nat) : Int) then (spec_PressAll k ((b4, (b5, (b6, (b7, b8)))), (List.getD b3 (Int.toNat b1) (0, ((⟨#[]⟩ : ByteArray), (⟨#[]⟩ : ByteArray)))).2.1)).bind fun v0 =>
       if 0 ≤ b1 then
        if b1 < ((List.length b3 : Nat) : Int) then (spec_ReadOrder k (List.getD b3 (Int.toNat b1) (0, ((⟨#[]⟩ : ByteArray), (⟨#[]⟩ : ByteArray)))).2.2).bind fun v1 =>
         if v1.2 = true then
          if (((List.length v0.2 + List.length [v1.1] : Nat) : Int) * ((32 : Nat) : Int)) ≤ 140737488355328 then spec_Latched_L15 spec_MenuNew spec_PressAll spec_ReadOrder spec_SenseOk spec_l13Both k (b0, b1, false, 0, b2, b3, v0.1.1, v0.1.2.1, v0.1.2.2.1, v0.1.2.2.2.1, v0.1.2.2.2.2, (v0.2 ++ [v1.1]), ()) else none
         else
          spec_Latched_L15 spec_MenuNew spec_PressAll spec_ReadOrder spec_SenseOk spec_l13Both k (b0, b1, false, 0, b2, b3, v0.1.1, v0.1.2.1, v0.1.2.2.1, v0.1.2.2.2.1, v0.1.2.2.2.2, v0.2, ()) else none
       else
        none else none
     else
      none
    else
     some true
def spec_Latched_L15 (spec_MenuNew : Nat → Unit → Option ((Int × Bool × Int × Int × ByteArray))) (spec_PressAll : Nat → (Int × Bool × Int × Int × ByteArray) × ByteArray → Option ((Int × Bool × Int × Int × ByteArray) × ((List (Int × (Int × (Int × Int))))))) (spec_ReadOrder : Nat → ByteArray → Option ((Int × Int × Int × Int) × Bool)) (spec_SenseOk : Nat → Int → Option (Bool)) (spec_l13Both : Nat → Int × Int → Option (Int)) : Nat → Int × Int × Bool × Int × (List (Int × (Int × Int))) × (List (Int × (ByteArray × ByteArray))) × Int × Bool × Int × Int × ByteArray × (List (Int × (Int × (Int × Int)))) × Unit → Option (Bool)
  | 0, _ => none
  | k + 1, (b0, b1, b2, b3, b4, b5, b6, b7, b8, b9, b10, b11, ()) =>
    if b3 < ((List.length b11 : Nat) : Int) then
     if b2 = true then
      spec_Latched_L15 spec_MenuNew spec_PressAll spec_ReadOrder spec_SenseOk spec_l13Both k (b0, b1, true, (wrap64 (b3 + 1)), b4, b5, b6, b7, b8, b9, b10, b11, ())
     else
      if 0 ≤ b3 then
       if b3 < ((List.length b11 : Nat) : Int) then spec_Latched_L15 spec_MenuNew spec_PressAll spec_ReadOrder spec_SenseOk spec_l13Both k (b0, b1, (decide ((List.getD b11 (Int.toNat b3) (0, (0, (0, 0)))).1 = 5)), (wrap64 (b3 + 1)), b4, b5, b6, b7, b8, b9, b10, b11, ()) else none
      else
       none
    else
     if 0 ≤ b1 then
      if b1 < ((List.length b5 : Nat) : Int) then (spec_SenseOk k (List.getD b5 (Int.toNat b1) (0, ((⟨#[]⟩ : ByteArray), (⟨#[]⟩ : ByteArray)))).1).bind fun v0 =>
       if v0 = true then
        if 0 ≤ b1 then
         if b1 < ((List.length b4 : Nat) : Int) then (spec_SenseOk k (List.getD b4 (Int.toNat b1) (0, (0, 0))).2.1).bind fun v1 =>
          if v1 = true then
           if 0 ≤ b1 then
            if b1 < ((List.length b4 : Nat) : Int) then
             if 0 ≤ b1 then
              if b1 < ((List.length b5 : Nat) : Int) then
               if 0 ≤ b1 then
                if b1 < ((List.length b4 : Nat) : Int) then (spec_l13Both k ((List.getD b4 (Int.toNat b1) (0, (0, 0))).2.1, (List.getD b5 (Int.toNat b1) (0, ((⟨#[]⟩ : ByteArray), (⟨#[]⟩ : ByteArray)))).1)).bind fun v2 =>
                 if v2 = (List.getD b4 (Int.toNat b1) (0, (0, 0))).2.1 then
                  if b2 = true then
                   if 0 ≤ b1 then
                    if b1 < ((List.length b4 : Nat) : Int) then spec_Latched_L6 spec_MenuNew spec_PressAll spec_ReadOrder spec_SenseOk spec_l13Both k ((List.getD b4 (Int.toNat b1) (0, (0, 0))).2.1, (wrap64 (b1 + 1)), b4, b5, b6, b7, b8, b9, b10, ()) else none
                   else
                    none
                  else
                   if 0 ≤ b1 then
                    if b1 < ((List.length b4 : Nat) : Int) then
                     if 0 ≤ b1 then
                      if b1 < ((List.length b4 : Nat) : Int) then (spec_l13Both k ((List.getD b4 (Int.toNat b1) (0, (0, 0))).2.1, b0)).bind fun v3 =>
                       if v3 = (List.getD b4 (Int.toNat b1) (0, (0, 0))).2.1 then
                        if 0 ≤ b1 then
                         if b1 < ((List.length b4 : Nat) : Int) then spec_Latched_L6 spec_MenuNew spec_PressAll spec_ReadOrder spec_SenseOk spec_l13Both k ((List.getD b4 (Int.toNat b1) (0, (0, 0))).2.1, (wrap64 (b1 + 1)), b4, b5, b6, b7, b8, b9, b10, ()) else none
                        else
                         none
                       else
                        some false else none
                     else
                      none
                    else
                     none
                   else
                    none
                 else
                  some false else none
               else
                none
              else
               none
             else
              none
            else
             none
           else
            none
          else
           some false else none
        else
         none
       else
        some false else none
     else
      none
end
def spec_Latched_ (spec_MenuNew : Nat → Unit → Option ((Int × Bool × Int × Int × ByteArray))) (spec_PressAll : Nat → (Int × Bool × Int × Int × ByteArray) × ByteArray → Option ((Int × Bool × Int × Int × ByteArray) × ((List (Int × (Int × (Int × Int))))))) (spec_ReadOrder : Nat → ByteArray → Option ((Int × Int × Int × Int) × Bool)) (spec_SenseOk : Nat → Int → Option (Bool)) (spec_l13Both : Nat → Int × Int → Option (Int)) (k : Nat) : ((List (Int × (Int × Int)))) × ((List (Int × (ByteArray × ByteArray)))) → Option (Bool)
  | (a0, a1) =>
  if ((List.length a0 : Nat) : Int) = ((List.length a1 : Nat) : Int) then
   (spec_MenuNew k ()).bind fun v0 =>
   spec_Latched_L6 spec_MenuNew spec_PressAll spec_ReadOrder spec_SenseOk spec_l13Both k (0, 0, a0, a1, v0.1, v0.2.1, v0.2.2.1, v0.2.2.2.1, v0.2.2.2.2, ())
  else
   some false
noncomputable def g_spec_Latched : ((List (Int × (Int × Int)))) × ((List (Int × (ByteArray × ByteArray)))) → Option (Bool) := evG (spec_Latched_ (fun _ => g_spec_MenuNew) (fun _ => g_spec_PressAll) (fun _ => g_spec_ReadOrder) (fun _ => g_spec_SenseOk) (fun _ => g_spec_l13Both))
theorem e_spec_Latched : ∀ x b, g_spec_Latched x = some b → ∃ k, spec_Latched_ (fun _ => g_spec_MenuNew) (fun _ => g_spec_PressAll) (fun _ => g_spec_ReadOrder) (fun _ => g_spec_SenseOk) (fun _ => g_spec_l13Both) k x = some b := evG_e _
/- laws_szIn -/
def con_laws_szIn (f : Nat → (Int × ByteArray × ByteArray) × Int → Option (Int)) : Con := ⟨[.agg [.int .i64, .str, .str], .c (.int .i64)], 1, [.v false [.int .i64]], f⟩
def laws_szIn_ (k : Nat) : (Int × ByteArray × ByteArray) × Int → Option (Int)
  | ((a0, a1, a2), a3) =>
  if (wrap64 (a3 - ((ByteArray.size a1 : Nat) : Int))) < 0 then
   some (-1)
  else
   if (wrap64 ((wrap64 (a3 - ((ByteArray.size a1 : Nat) : Int))) - ((ByteArray.size a2 : Nat) : Int))) < 0 then
    some (-1)
   else
    some (wrap64 ((wrap64 (a3 - ((ByteArray.size a1 : Nat) : Int))) - ((ByteArray.size a2 : Nat) : Int)))
noncomputable def g_laws_szIn : (Int × ByteArray × ByteArray) × Int → Option (Int) := laws_szIn_  0
theorem e_laws_szIn : ∀ x b, g_laws_szIn x = some b → ∃ k, laws_szIn_  k x = some b := fun x b h => ⟨0, h⟩
/- laws_szInS -/
def con_laws_szInS (f : Nat → ((List (Int × (ByteArray × ByteArray)))) × Int → Option (Int)) : Con := ⟨[.c (.sl (.pair (.int .i64) (.pair .str .str))), .c (.int .i64)], 1, [.v false [.int .i64]], f⟩
def laws_szInS_L5 (laws_szIn : Nat → (Int × ByteArray × ByteArray) × Int → Option (Int)) : Nat → Int × Int × (List (Int × (ByteArray × ByteArray))) × Unit → Option (Int)
  | 0, _ => none
  | k + 1, (b0, b1, b2, ()) =>
    if b1 < ((List.length b2 : Nat) : Int) then
     if 0 ≤ b1 then
      if b1 < ((List.length b2 : Nat) : Int) then (laws_szIn k ((List.getD b2 (Int.toNat b1) (0, ((⟨#[]⟩ : ByteArray), (⟨#[]⟩ : ByteArray)))), b0)).bind fun v0 =>
       if v0 < 0 then
        some (-1)
       else
        laws_szInS_L5 laws_szIn k (v0, (wrap64 (b1 + 1)), b2, ()) else none
     else
      none
    else
     some b0
def laws_szInS_ (laws_szIn : Nat → (Int × ByteArray × ByteArray) × Int → Option (Int)) (k : Nat) : ((List (Int × (ByteArray × ByteArray)))) × Int → Option (Int)
  | (a0, a1) =>
  if (wrap64 (a1 - ((List.length a0 : Nat) : Int))) < 0 then
   some (-1)
  else
   laws_szInS_L5 laws_szIn k ((wrap64 (a1 - ((List.length a0 : Nat) : Int))), 0, a0, ())
noncomputable def g_laws_szInS : ((List (Int × (ByteArray × ByteArray)))) × Int → Option (Int) := evG (laws_szInS_ (fun _ => g_laws_szIn))
theorem e_laws_szInS : ∀ x b, g_laws_szInS x = some b → ∃ k, laws_szInS_ (fun _ => g_laws_szIn) k x = some b := evG_e _
/- laws_szTickS -/
def con_laws_szTickS (f : Nat → ((List (Int × (Int × Int)))) × Int → Option (Int)) : Con := ⟨[.c (.sl (.pair (.int .i64) (.pair (.int .i64) (.int .i64)))), .c (.int .i64)], 1, [.v false [.int .i64]], f⟩
def laws_szTickS_ (k : Nat) : ((List (Int × (Int × Int)))) × Int → Option (Int)
  | (a0, a1) =>
  if (wrap64 (a1 - ((List.length a0 : Nat) : Int))) < 0 then
   some (-1)
  else
   some (wrap64 (a1 - ((List.length a0 : Nat) : Int)))
noncomputable def g_laws_szTickS : ((List (Int × (Int × Int)))) × Int → Option (Int) := laws_szTickS_  0
theorem e_laws_szTickS : ∀ x b, g_laws_szTickS x = some b → ∃ k, laws_szTickS_  k x = some b := fun x b h => ⟨0, h⟩
/- laws_FnExactLatched -/
def con_laws_FnExactLatched (f : Nat → ((List (Int × (Int × Int)))) × ((List (Int × (ByteArray × ByteArray)))) → Option (Bool)) : Con := ⟨[.c (.sl (.pair (.int .i64) (.pair (.int .i64) (.int .i64)))), .c (.sl (.pair (.int .i64) (.pair .str .str)))], 1, [.v false [.bool]], f⟩
def laws_FnExactLatched_ (impl_Latched : Nat → ((List (Int × (Int × Int)))) × ((List (Int × (ByteArray × ByteArray)))) → Option (Bool)) (laws_eqInS : Nat → ((List (Int × (ByteArray × ByteArray)))) × ((List (Int × (ByteArray × ByteArray)))) → Option (Bool)) (laws_eqTickS : Nat → ((List (Int × (Int × Int)))) × ((List (Int × (Int × Int)))) → Option (Bool)) (laws_szInS : Nat → ((List (Int × (ByteArray × ByteArray)))) × Int → Option (Int)) (laws_szTickS : Nat → ((List (Int × (Int × Int)))) × Int → Option (Int)) (laws_toInS : Nat → ((List (Int × (ByteArray × ByteArray)))) → Option (((List (Int × (ByteArray × ByteArray)))))) (laws_toTickS : Nat → ((List (Int × (Int × Int)))) → Option (((List (Int × (Int × Int)))))) (spec_Latched : Nat → ((List (Int × (Int × Int)))) × ((List (Int × (ByteArray × ByteArray)))) → Option (Bool)) (k : Nat) : ((List (Int × (Int × Int)))) × ((List (Int × (ByteArray × ByteArray)))) → Option (Bool)
  | (a0, a1) =>
  (laws_szTickS k (a0, 1048576)).bind fun v0 =>
  if v0 < 0 then
   some true
  else
   (laws_szInS k (a1, v0)).bind fun v1 =>
   if v1 < 0 then
    some true
   else
    (laws_toTickS k a0).bind fun v2 =>
    (laws_toInS k a1).bind fun v3 =>
    (spec_Latched k (v2, v3)).bind fun v4 =>
    (laws_toTickS k a0).bind fun v5 =>
    (laws_toInS k a1).bind fun v6 =>
    (impl_Latched k (v5, v6)).bind fun v7 =>
    if (v7 == v4) = true then
     (laws_toTickS k a0).bind fun v8 =>
     (laws_eqTickS k (v5, v8)).bind fun v9 =>
     if v9 = true then
      (laws_toInS k a1).bind fun v10 =>
      (laws_eqInS k (v6, v10)).bind fun v11 =>
      if v11 = true then
       some true
      else
       some false
     else
      some false
    else
     some false
noncomputable def g_laws_FnExactLatched : ((List (Int × (Int × Int)))) × ((List (Int × (ByteArray × ByteArray)))) → Option (Bool) := laws_FnExactLatched_ (fun _ => g_impl_Latched) (fun _ => g_laws_eqInS) (fun _ => g_laws_eqTickS) (fun _ => g_laws_szInS) (fun _ => g_laws_szTickS) (fun _ => g_laws_toInS) (fun _ => g_laws_toTickS) (fun _ => g_spec_Latched) 0
theorem e_laws_FnExactLatched : ∀ x b, g_laws_FnExactLatched x = some b → ∃ k, laws_FnExactLatched_ (fun _ => g_impl_Latched) (fun _ => g_laws_eqInS) (fun _ => g_laws_eqTickS) (fun _ => g_laws_szInS) (fun _ => g_laws_szTickS) (fun _ => g_laws_toInS) (fun _ => g_laws_toTickS) (fun _ => g_spec_Latched) k x = some b := fun x b h => ⟨0, h⟩
end Go.Sx.T
