/- Functions of the program as functions of Lean, and that the program keeps to them. -/
import Derived.Test.YthimkepabblloaaSxP3
set_option maxRecDepth 100000
set_option linter.unusedVariables false
set_option linter.unusedSimpArgs false
namespace Go.Proofs
end Go.Proofs
namespace Go.Sx.T
open Go Go.Sx Go.Proofs Go.RowKit
/- spec_PumpNew -/
def con_spec_PumpNew (f : Nat → Unit → Option ((Int × Int × Int × Int × Int × Int × Int × Int))) : Con := ⟨[], 1, [.v true [.int .i64, .int .i64, .int .i64, .int .i64, .int .i64, .int .i64, .int .i64, .int .i64]], f⟩
def spec_PumpNew_ (k : Nat) : Unit → Option ((Int × Int × Int × Int × Int × Int × Int × Int))
  | () =>
  some (0, (0, (1, (0, (0, (0, (0, 0)))))))
noncomputable def g_spec_PumpNew : Unit → Option ((Int × Int × Int × Int × Int × Int × Int × Int)) := spec_PumpNew_  0
theorem e_spec_PumpNew : ∀ x b, g_spec_PumpNew x = some b → ∃ k, spec_PumpNew_  k x = some b := fun x b h => ⟨0, h⟩
/- impl_within -/
def con_impl_within (f : Nat → Int × Int × Int → Option (Bool)) : Con := ⟨[.c (.int .i64), .c (.int .i64), .c (.int .i64)], 1, [.v false [.bool]], f⟩
def impl_within_ (k : Nat) : Int × Int × Int → Option (Bool)
  | (a0, a1, a2) =>
  if a1 ≤ a0 then
   some (decide (a0 ≤ a2))
  else
   some false
noncomputable def g_impl_within : Int × Int × Int → Option (Bool) := impl_within_  0
theorem e_impl_within : ∀ x b, g_impl_within x = some b → ∃ k, impl_within_  k x = some b := fun x b h => ⟨0, h⟩
/- impl_OrderOk -/
def con_impl_OrderOk (f : Nat → (Int × Int × Int × Int) → Option (Bool)) : Con := ⟨[.agg [.int .i64, .int .i64, .int .i64, .int .i64]], 1, [.v false [.bool]], f⟩
def impl_OrderOk_ (impl_within : Nat → Int × Int × Int → Option (Bool)) (k : Nat) : (Int × Int × Int × Int) → Option (Bool)
  | (a0, a1, a2, a3) =>
  if a0 = 1 then
   (impl_within k (a2, (1, 1000))).bind fun v0 =>
   if v0 = true then
    (impl_within k (a1, (1, (mn 1000 (wrap64 (3 * a2)))))).bind fun v1 =>
    if v1 = true then
     (impl_within k (a3, (1, 5000))).bind fun v2 =>
     some v2
    else
     some false
   else
    some false
  else
   if a0 = 2 then
    if a0 = 2 then
     if a1 = 0 then
      if a2 = 0 then
       if a3 = a3 then
        (impl_within k (a3, (1, 100))).bind fun v3 =>
        some v3
       else
        some false
      else
       some false
     else
      some false
    else
     some false
   else
    (impl_within k (a0, (3, 6))).bind fun v4 =>
    if v4 = true then
     some ((decide (a0 = a0)) && ((decide (a1 = 0)) && ((decide (a2 = 0)) && (decide (a3 = 0)))))
    else
     some false
noncomputable def g_impl_OrderOk : (Int × Int × Int × Int) → Option (Bool) := impl_OrderOk_ (fun _ => g_impl_within) 0
theorem e_impl_OrderOk : ∀ x b, g_impl_OrderOk x = some b → ∃ k, impl_OrderOk_ (fun _ => g_impl_within) k x = some b := fun x b h => ⟨0, h⟩
/- spec_l01In -/
def con_spec_l01In (f : Nat → Int × Int × Int → Option (Bool)) : Con := ⟨[.c (.int .i64), .c (.int .i64), .c (.int .i64)], 1, [.v false [.bool]], f⟩
def spec_l01In_ (k : Nat) : Int × Int × Int → Option (Bool)
  | (a0, a1, a2) =>
  if a1 ≤ a0 then
   some (decide (a0 ≤ a2))
  else
   some false
noncomputable def g_spec_l01In : Int × Int × Int → Option (Bool) := spec_l01In_  0
theorem e_spec_l01In : ∀ x b, g_spec_l01In x = some b → ∃ k, spec_l01In_  k x = some b := fun x b h => ⟨0, h⟩
/- spec_OrderOk -/
def con_spec_OrderOk (f : Nat → (Int × Int × Int × Int) → Option (Bool)) : Con := ⟨[.agg [.int .i64, .int .i64, .int .i64, .int .i64]], 1, [.v false [.bool]], f⟩
def spec_OrderOk_ (spec_l01In : Nat → Int × Int × Int → Option (Bool)) (k : Nat) : (Int × Int × Int × Int) → Option (Bool)
  | (a0, a1, a2, a3) =>
  if a0 = 1 then
   (spec_l01In k (a2, (1, 1000))).bind fun v0 =>
   if v0 = true then
    (spec_l01In k (a1, (1, 1000))).bind fun v1 =>
    if v1 = true then
     if a1 ≤ (wrap64 (3 * a2)) then
      (spec_l01In k (a3, (1, 5000))).bind fun v2 =>
      some v2
     else
      some false
    else
     some false
   else
    some false
  else
   if a0 = 2 then
    (spec_l01In k (a3, (1, 100))).bind fun v3 =>
    if v3 = true then
     if a1 = 0 then
      some (decide (a2 = 0))
     else
      some false
    else
     some false
   else
    (spec_l01In k (a0, (3, 6))).bind fun v4 =>
    if v4 = true then
     if a1 = 0 then
      if a2 = 0 then
       some (decide (a3 = 0))
      else
       some false
     else
      some false
    else
     some false
noncomputable def g_spec_OrderOk : (Int × Int × Int × Int) → Option (Bool) := spec_OrderOk_ (fun _ => g_spec_l01In) 0
theorem e_spec_OrderOk : ∀ x b, g_spec_OrderOk x = some b → ∃ k, spec_OrderOk_ (fun _ => g_spec_l01In) k x = some b := fun x b h => ⟨0, h⟩
/- spec_l01Byte -/
def con_spec_l01Byte (f : Nat → (List Int × Int × Int) → Option (Int × (Unit × Int × Int))) : Con := ⟨[.ptr [.sl (.int .u8), .int .i64, .int .i64] 155], 1, [.v false [.int .i64], .box [.keep, .int .i64, .int .i64] 155], f⟩
def spec_l01Byte_ (k : Nat) : (List Int × Int × Int) → Option (Int × (Unit × Int × Int))
  | (a0, a1, a2) =>
  if 0 ≤ 33 then
   if 0 ≤ 45 then
    if a1 < ((List.length a0 : Nat) : Int) then
     if 0 ≤ a1 then
      if a1 < ((List.length a0 : Nat) : Int) then some ((iand .i64 (wrap64 ((iand .i64 (ixor .i64 (Int.fdiv (wrap64 ((wrap64 (a2 * 6364136223846793005)) + 1442695040888963407)) (2 ^ (min (Int.toNat 33) (IntKind.bits .i64)))) (Int.fdiv (wrap64 ((wrap64 (a2 * 6364136223846793005)) + 1442695040888963407)) (2 ^ (min (Int.toNat 45) (IntKind.bits .i64))))) 255) + (wrap64 (List.getD a0 (Int.toNat a1) 0)))) 255), ((), ((wrap64 (a1 + 1)), (wrap64 ((wrap64 (a2 * 6364136223846793005)) + 1442695040888963407))))) else none
     else
      none
    else
     some ((iand .i64 (ixor .i64 (Int.fdiv (wrap64 ((wrap64 (a2 * 6364136223846793005)) + 1442695040888963407)) (2 ^ (min (Int.toNat 33) (IntKind.bits .i64)))) (Int.fdiv (wrap64 ((wrap64 (a2 * 6364136223846793005)) + 1442695040888963407)) (2 ^ (min (Int.toNat 45) (IntKind.bits .i64))))) 255), ((), (a1, (wrap64 ((wrap64 (a2 * 6364136223846793005)) + 1442695040888963407)))))
   else
    none
  else
   none
noncomputable def g_spec_l01Byte : (List Int × Int × Int) → Option (Int × (Unit × Int × Int)) := spec_l01Byte_  0
theorem e_spec_l01Byte : ∀ x b, g_spec_l01Byte x = some b → ∃ k, spec_l01Byte_  k x = some b := fun x b h => ⟨0, h⟩
/- spec_l01Below -/
def con_spec_l01Below (f : Nat → (List Int × Int × Int) × Int → Option (Int × (Unit × Int × Int))) : Con := ⟨[.ptr [.sl (.int .u8), .int .i64, .int .i64] 155, .c (.int .i64)], 1, [.v false [.int .i64], .box [.keep, .int .i64, .int .i64] 155], f⟩
def spec_l01Below_ (spec_l01Byte : Nat → (List Int × Int × Int) → Option (Int × (Unit × Int × Int))) (k : Nat) : (List Int × Int × Int) × Int → Option (Int × (Unit × Int × Int))
  | ((a0, a1, a2), a3) =>
  if a3 ≤ 0 then
   some (0, ((), (a1, a2)))
  else
   if a3 ≤ 256 then
    (spec_l01Byte k (a0, (a1, a2))).bind fun v0 =>
    if a3 = 0 then
     none
    else
     some ((Int.tmod v0.1 a3), ((), v0.2.2))
   else
    (spec_l01Byte k (a0, (a1, a2))).bind fun v1 =>
    (spec_l01Byte k (a0, v1.2.2)).bind fun v2 =>
    (spec_l01Byte k (a0, v2.2.2)).bind fun v3 =>
    (spec_l01Byte k (a0, v3.2.2)).bind fun v4 =>
    if a3 = 0 then
     none
    else
     some ((Int.tmod (wrap64 ((wrap64 ((wrap64 ((wrap64 (v1.1 * 16777216)) + (wrap64 (v2.1 * 65536)))) + (wrap64 (v3.1 * 256)))) + v4.1)) a3), ((), v4.2.2))
noncomputable def g_spec_l01Below : (List Int × Int × Int) × Int → Option (Int × (Unit × Int × Int)) := spec_l01Below_ (fun _ => g_spec_l01Byte) 0
theorem e_spec_l01Below : ∀ x b, g_spec_l01Below x = some b → ∃ k, spec_l01Below_ (fun _ => g_spec_l01Byte) k x = some b := fun x b h => ⟨0, h⟩
/- spec_l01New -/
def con_spec_l01New (f : Nat → List Int → Option ((Unit × Int × Int))) : Con := ⟨[.c (.sl (.int .u8))], 1, [.box [.al 0 0, .int .i64, .int .i64] 155], f⟩
def spec_l01New_L3 : Nat → Int × Int × List Int × Unit → Option ((Unit × Int × Int))
  | 0, _ => none
  | k + 1, (b0, b1, b2, ()) =>
    if b1 < ((List.length b2 : Nat) : Int) then
     if b1 < 4000 then
      if 0 ≤ b1 then
       if b1 < ((List.length b2 : Nat) : Int) then spec_l01New_L3 k ((iand .i64 (wrap64 ((wrap64 ((wrap64 (b0 * 131)) + (wrap64 (List.getD b2 (Int.toNat b1) 0)))) + 7)) 1073741823), (wrap64 (b1 + 1)), b2, ()) else none
      else
       none
     else
      some ((), (0, b0))
    else
     some ((), (0, b0))
def spec_l01New_ (k : Nat) : List Int → Option ((Unit × Int × Int))
  | a0 =>
  spec_l01New_L3 k ((wrap64 (37101 + ((List.length a0 : Nat) : Int))), 0, a0, ())
noncomputable def g_spec_l01New : List Int → Option ((Unit × Int × Int)) := evG (spec_l01New_ )
theorem e_spec_l01New : ∀ x b, g_spec_l01New x = some b → ∃ k, spec_l01New_  k x = some b := evG_e _
/- laws_big -/
def con_laws_big (f : Nat → List Int → Option (Bool)) : Con := ⟨[.c (.sl (.int .u8))], 1, [.v false [.bool]], f⟩
def laws_big_ (k : Nat) : List Int → Option (Bool)
  | a0 =>
  some (decide (1048576 < ((List.length a0 : Nat) : Int)))
noncomputable def g_laws_big : List Int → Option (Bool) := laws_big_  0
theorem e_laws_big : ∀ x b, g_laws_big x = some b → ∃ k, laws_big_  k x = some b := fun x b h => ⟨0, h⟩
/- spec_l01PickInt -/
def con_spec_l01PickInt (f : Nat → (List Int × Int × Int) × List Int → Option (Int × (Unit × Int × Int))) : Con := ⟨[.ptr [.sl (.int .u8), .int .i64, .int .i64] 155, .c (.sl (.int .i64))], 1, [.v false [.int .i64], .box [.keep, .int .i64, .int .i64] 155], f⟩
def spec_l01PickInt_ (spec_l01Below : Nat → (List Int × Int × Int) × Int → Option (Int × (Unit × Int × Int))) (k : Nat) : (List Int × Int × Int) × List Int → Option (Int × (Unit × Int × Int))
  | ((a0, a1, a2), a3) =>
  (spec_l01Below k ((a0, (a1, a2)), ((List.length a3 : Nat) : Int))).bind fun v0 =>
  if 0 ≤ v0.1 then
   if v0.1 < ((List.length a3 : Nat) : Int) then some ((List.getD a3 (Int.toNat v0.1) 0), ((), v0.2.2)) else none
  else
   none
noncomputable def g_spec_l01PickInt : (List Int × Int × Int) × List Int → Option (Int × (Unit × Int × Int)) := spec_l01PickInt_ (fun _ => g_spec_l01Below) 0
theorem e_spec_l01PickInt : ∀ x b, g_spec_l01PickInt x = some b → ∃ k, spec_l01PickInt_ (fun _ => g_spec_l01Below) k x = some b := fun x b h => ⟨0, h⟩
/- impl_RateOk -/
def con_impl_RateOk (f : Nat → (Int × Int × Int) → Option (Bool)) : Con := ⟨[.agg [.int .i64, .int .i64, .int .i64]], 1, [.v false [.bool]], f⟩
def impl_RateOk_ (impl_within : Nat → Int × Int × Int → Option (Bool)) (k : Nat) : (Int × Int × Int) → Option (Bool)
  | (a0, a1, a2) =>
  (impl_within k (a0, (0, 1000000))).bind fun v0 =>
  if v0 = true then
   (impl_within k (a1, (1, 1000000))).bind fun v1 =>
   if v1 = true then
    (impl_within k (a2, (0, (wrap64 (a1 - 1))))).bind fun v2 =>
    some v2
   else
    some false
  else
   some false
noncomputable def g_impl_RateOk : (Int × Int × Int) → Option (Bool) := impl_RateOk_ (fun _ => g_impl_within) 0
theorem e_impl_RateOk : ∀ x b, g_impl_RateOk x = some b → ∃ k, impl_RateOk_ (fun _ => g_impl_within) k x = some b := fun x b h => ⟨0, h⟩
/- impl_StepRate -/
def con_impl_StepRate (f : Nat → (Int × Int × Int) → Option ((Int × Int × Int) × Int)) : Con := ⟨[.agg [.int .i64, .int .i64, .int .i64]], 2, [.v true [.int .i64, .int .i64, .int .i64], .v false [.int .i64]], f⟩
def impl_StepRate_ (impl_RateOk : Nat → (Int × Int × Int) → Option (Bool)) (k : Nat) : (Int × Int × Int) → Option ((Int × Int × Int) × Int)
  | (a0, a1, a2) =>
  (impl_RateOk k (a0, (a1, a2))).bind fun v0 =>
  if v0 = true then
   if a1 = 0 then
    none
   else
    if a1 = 0 then
     none
    else
     some ((a0, (a1, (Int.tmod (wrap64 (a2 + a0)) a1))), (wrap64 (Int.tdiv (wrap64 (a2 + a0)) a1)))
  else
   some ((a0, (a1, a2)), 0)
noncomputable def g_impl_StepRate : (Int × Int × Int) → Option ((Int × Int × Int) × Int) := impl_StepRate_ (fun _ => g_impl_RateOk) 0
theorem e_impl_StepRate : ∀ x b, g_impl_StepRate x = some b → ∃ k, impl_StepRate_ (fun _ => g_impl_RateOk) k x = some b := fun x b h => ⟨0, h⟩
/- impl_PumpOk -/
def con_impl_PumpOk (f : Nat → (Int × Int × Int × Int × Int × Int × Int × Int) → Option (Bool)) : Con := ⟨[.agg [.int .i64, .int .i64, .int .i64, .int .i64, .int .i64, .int .i64, .int .i64, .int .i64]], 1, [.v false [.bool]], f⟩
def impl_PumpOk_ (impl_RateOk : Nat → (Int × Int × Int) → Option (Bool)) (impl_within : Nat → Int × Int × Int → Option (Bool)) (k : Nat) : (Int × Int × Int × Int × Int × Int × Int × Int) → Option (Bool)
  | (a0, a1, a2, a3, a4, a5, a6, a7) =>
  (impl_within k (a0, (0, 3))).bind fun v0 =>
  if v0 = true then
   (impl_RateOk k (a1, (a2, a3))).bind fun v1 =>
   if v1 = true then
    if (wrap64 (3 * a2)) < a1 then
     some false
    else
     (impl_within k (a7, (0, 2))).bind fun v2 =>
     if v2 = true then
      if a7 = 0 then
       if a0 = 1 then
        (impl_within k (a4, (0, 5000))).bind fun v3 =>
        if v3 = true then
         if (true == (decide (0 < a4))) = true then
          (impl_within k (a5, (0, 100))).bind fun v4 =>
          if v4 = true then
           (impl_within k (a6, (0, 1000000000000))).bind fun v5 =>
           some v5
          else
           some false
         else
          some false
        else
         some false
       else
        if a0 = 3 then
         (impl_within k (a4, (0, 5000))).bind fun v6 =>
         if v6 = true then
          if ((decide (a7 = 1)) == (decide (0 < a4))) = true then
           (impl_within k (a5, (0, 100))).bind fun v7 =>
           if v7 = true then
            (impl_within k (a6, (0, 1000000000000))).bind fun v8 =>
            some v8
           else
            some false
          else
           some false
         else
          some false
        else
         (impl_within k (a4, (0, 5000))).bind fun v9 =>
         if v9 = true then
          if (false == (decide (0 < a4))) = true then
           (impl_within k (a5, (0, 100))).bind fun v10 =>
           if v10 = true then
            (impl_within k (a6, (0, 1000000000000))).bind fun v11 =>
            some v11
           else
            some false
          else
           some false
         else
          some false
      else
       if a0 = 3 then
        if a0 = 1 then
         (impl_within k (a4, (0, 5000))).bind fun v12 =>
         if v12 = true then
          if (true == (decide (0 < a4))) = true then
           (impl_within k (a5, (0, 100))).bind fun v13 =>
           if v13 = true then
            (impl_within k (a6, (0, 1000000000000))).bind fun v14 =>
            some v14
           else
            some false
          else
           some false
         else
          some false
        else
         if a0 = 3 then
          (impl_within k (a4, (0, 5000))).bind fun v15 =>
          if v15 = true then
           if ((decide (a7 = 1)) == (decide (0 < a4))) = true then
            (impl_within k (a5, (0, 100))).bind fun v16 =>
            if v16 = true then
             (impl_within k (a6, (0, 1000000000000))).bind fun v17 =>
             some v17
            else
             some false
           else
            some false
          else
           some false
         else
          (impl_within k (a4, (0, 5000))).bind fun v18 =>
          if v18 = true then
           if (false == (decide (0 < a4))) = true then
            (impl_within k (a5, (0, 100))).bind fun v19 =>
            if v19 = true then
             (impl_within k (a6, (0, 1000000000000))).bind fun v20 =>
             some v20
            else
             some false
           else
            some false
          else
           some false
       else
        some false
     else
      some false
   else
    some false
  else
   some false
noncomputable def g_impl_PumpOk : (Int × Int × Int × Int × Int × Int × Int × Int) → Option (Bool) := impl_PumpOk_ (fun _ => g_impl_RateOk) (fun _ => g_impl_within) 0
theorem e_impl_PumpOk : ∀ x b, g_impl_PumpOk x = some b → ∃ k, impl_PumpOk_ (fun _ => g_impl_RateOk) (fun _ => g_impl_within) k x = some b := fun x b h => ⟨0, h⟩
/- impl_Wants -/
def con_impl_Wants (f : Nat → (Int × Int × Int × Int × Int × Int × Int × Int) → Option (Int)) : Con := ⟨[.agg [.int .i64, .int .i64, .int .i64, .int .i64, .int .i64, .int .i64, .int .i64, .int .i64]], 1, [.v false [.int .i64]], f⟩
def impl_Wants_ (impl_PumpOk : Nat → (Int × Int × Int × Int × Int × Int × Int × Int) → Option (Bool)) (impl_StepRate : Nat → (Int × Int × Int) → Option ((Int × Int × Int) × Int)) (k : Nat) : (Int × Int × Int × Int × Int × Int × Int × Int) → Option (Int)
  | (a0, a1, a2, a3, a4, a5, a6, a7) =>
  (impl_PumpOk k (a0, (a1, (a2, (a3, (a4, (a5, (a6, a7)))))))).bind fun v0 =>
  if v0 = true then
   if a0 = 1 then
    (impl_StepRate k (a1, (a2, a3))).bind fun v1 =>
    if a0 = 1 then
     some (wrap64 ((mn v1.2 a4) + (mn a5 3)))
    else
     some (wrap64 (v1.2 + (mn a5 3)))
   else
    if a0 = 2 then
     (impl_StepRate k (a1, (a2, a3))).bind fun v2 =>
     if a0 = 1 then
      some (wrap64 ((mn v2.2 a4) + (mn a5 3)))
     else
      some (wrap64 (v2.2 + (mn a5 3)))
    else
     some 0
  else
   some 0
noncomputable def g_impl_Wants : (Int × Int × Int × Int × Int × Int × Int × Int) → Option (Int) := impl_Wants_ (fun _ => g_impl_PumpOk) (fun _ => g_impl_StepRate) 0
theorem e_impl_Wants : ∀ x b, g_impl_Wants x = some b → ∃ k, impl_Wants_ (fun _ => g_impl_PumpOk) (fun _ => g_impl_StepRate) k x = some b := fun x b h => ⟨0, h⟩
/- impl_Give -/
def con_impl_Give (f : Nat → (Int × Int × Int × Int × Int × Int × Int × Int) × Int → Option ((Int × Int × Int × Int × Int × Int × Int × Int))) : Con := ⟨[.agg [.int .i64, .int .i64, .int .i64, .int .i64, .int .i64, .int .i64, .int .i64, .int .i64], .c (.int .i64)], 1, [.v true [.int .i64, .int .i64, .int .i64, .int .i64, .int .i64, .int .i64, .int .i64, .int .i64]], f⟩
def impl_Give_ (impl_PumpOk : Nat → (Int × Int × Int × Int × Int × Int × Int × Int) → Option (Bool)) (impl_StepRate : Nat → (Int × Int × Int) → Option ((Int × Int × Int) × Int)) (impl_Wants : Nat → (Int × Int × Int × Int × Int × Int × Int × Int) → Option (Int)) (k : Nat) : (Int × Int × Int × Int × Int × Int × Int × Int) × Int → Option ((Int × Int × Int × Int × Int × Int × Int × Int))
  | ((a0, a1, a2, a3, a4, a5, a6, a7), a8) =>
  (impl_PumpOk k (a0, (a1, (a2, (a3, (a4, (a5, (a6, a7)))))))).bind fun v0 =>
  if v0 = true then
   if a0 = 1 then
    (impl_Wants k (a0, (a1, (a2, (a3, (a4, (a5, (a6, a7)))))))).bind fun v1 =>
    (impl_StepRate k (a1, (a2, a3))).bind fun v2 =>
    if a0 = 2 then
     some (a0, (v2.1.1, (v2.1.2.1, (v2.1.2.2, (a4, ((wrap64 (a5 - (mn (mn (mn (mx a8 0) v1) a5) 3))), ((mn (wrap64 (a6 + (mn (mx a8 0) v1))) 1000000000000), a7)))))))
    else
     if (wrap64 (a4 - (wrap64 ((mn (mx a8 0) v1) - (mn (mn (mn (mx a8 0) v1) a5) 3))))) = 0 then
      some (2, (1, (50, (0, ((wrap64 (a4 - (wrap64 ((mn (mx a8 0) v1) - (mn (mn (mn (mx a8 0) v1) a5) 3))))), ((wrap64 (a5 - (mn (mn (mn (mx a8 0) v1) a5) 3))), ((mn (wrap64 (a6 + (mn (mx a8 0) v1))) 1000000000000), a7)))))))
     else
      some (a0, (v2.1.1, (v2.1.2.1, (v2.1.2.2, ((wrap64 (a4 - (wrap64 ((mn (mx a8 0) v1) - (mn (mn (mn (mx a8 0) v1) a5) 3))))), ((wrap64 (a5 - (mn (mn (mn (mx a8 0) v1) a5) 3))), ((mn (wrap64 (a6 + (mn (mx a8 0) v1))) 1000000000000), a7)))))))
   else
    if a0 = 2 then
     (impl_Wants k (a0, (a1, (a2, (a3, (a4, (a5, (a6, a7)))))))).bind fun v3 =>
     (impl_StepRate k (a1, (a2, a3))).bind fun v4 =>
     if a0 = 2 then
      some (a0, (v4.1.1, (v4.1.2.1, (v4.1.2.2, (a4, ((wrap64 (a5 - (mn (mn (mn (mx a8 0) v3) a5) 3))), ((mn (wrap64 (a6 + (mn (mx a8 0) v3))) 1000000000000), a7)))))))
     else
      if (wrap64 (a4 - (wrap64 ((mn (mx a8 0) v3) - (mn (mn (mn (mx a8 0) v3) a5) 3))))) = 0 then
       some (2, (1, (50, (0, ((wrap64 (a4 - (wrap64 ((mn (mx a8 0) v3) - (mn (mn (mn (mx a8 0) v3) a5) 3))))), ((wrap64 (a5 - (mn (mn (mn (mx a8 0) v3) a5) 3))), ((mn (wrap64 (a6 + (mn (mx a8 0) v3))) 1000000000000), a7)))))))
      else
       some (a0, (v4.1.1, (v4.1.2.1, (v4.1.2.2, ((wrap64 (a4 - (wrap64 ((mn (mx a8 0) v3) - (mn (mn (mn (mx a8 0) v3) a5) 3))))), ((wrap64 (a5 - (mn (mn (mn (mx a8 0) v3) a5) 3))), ((mn (wrap64 (a6 + (mn (mx a8 0) v3))) 1000000000000), a7)))))))
    else
     some (a0, (a1, (a2, (a3, (a4, (a5, (a6, a7)))))))
  else
   some (a0, (a1, (a2, (a3, (a4, (a5, (a6, a7)))))))
noncomputable def g_impl_Give : (Int × Int × Int × Int × Int × Int × Int × Int) × Int → Option ((Int × Int × Int × Int × Int × Int × Int × Int)) := impl_Give_ (fun _ => g_impl_PumpOk) (fun _ => g_impl_StepRate) (fun _ => g_impl_Wants) 0
theorem e_impl_Give : ∀ x b, g_impl_Give x = some b → ∃ k, impl_Give_ (fun _ => g_impl_PumpOk) (fun _ => g_impl_StepRate) (fun _ => g_impl_Wants) k x = some b := fun x b h => ⟨0, h⟩
/- impl_Take -/
def con_impl_Take (f : Nat → (Int × Int × Int × Int × Int × Int × Int × Int) × (Int × Int × Int × Int) → Option ((Int × Int × Int × Int × Int × Int × Int × Int) × Bool)) : Con := ⟨[.agg [.int .i64, .int .i64, .int .i64, .int .i64, .int .i64, .int .i64, .int .i64, .int .i64], .agg [.int .i64, .int .i64, .int .i64, .int .i64]], 2, [.v true [.int .i64, .int .i64, .int .i64, .int .i64, .int .i64, .int .i64, .int .i64, .int .i64], .v false [.bool]], f⟩
def impl_Take_ (impl_OrderOk : Nat → (Int × Int × Int × Int) → Option (Bool)) (impl_PumpOk : Nat → (Int × Int × Int × Int × Int × Int × Int × Int) → Option (Bool)) (k : Nat) : (Int × Int × Int × Int × Int × Int × Int × Int) × (Int × Int × Int × Int) → Option ((Int × Int × Int × Int × Int × Int × Int × Int) × Bool)
  | ((a0, a1, a2, a3, a4, a5, a6, a7), (a8, a9, a10, a11)) =>
  (impl_PumpOk k (a0, (a1, (a2, (a3, (a4, (a5, (a6, a7)))))))).bind fun v0 =>
  if v0 = true then
   (impl_OrderOk k (a8, (a9, (a10, a11)))).bind fun v1 =>
   if v1 = true then
    if a8 = 1 then
     if a0 = 0 then
      some ((1, (a9, (a10, (0, (a11, (a5, (a6, a7))))))), true)
     else
      if a0 = 2 then
       some ((1, (a9, (a10, (0, (a11, (a5, (a6, a7))))))), true)
      else
       some ((a0, (a1, (a2, (a3, (a4, (a5, (a6, a7))))))), false)
    else
     if a8 = 2 then
      if a0 = 1 then
       if a5 = 0 then
        some ((a0, (a1, (a2, (a3, (a4, (a11, (a6, a7))))))), true)
       else
        some ((a0, (a1, (a2, (a3, (a4, (a5, (a6, a7))))))), false)
      else
       if a0 = 2 then
        if a5 = 0 then
         some ((a0, (a1, (a2, (a3, (a4, (a11, (a6, a7))))))), true)
        else
         some ((a0, (a1, (a2, (a3, (a4, (a5, (a6, a7))))))), false)
       else
        some ((a0, (a1, (a2, (a3, (a4, (a5, (a6, a7))))))), false)
     else
      if a8 = 3 then
       if a0 = 1 then
        some ((3, (a1, (a2, (a3, (a4, (a5, (a6, a0))))))), true)
       else
        if a0 = 2 then
         some ((3, (a1, (a2, (a3, (a4, (a5, (a6, a0))))))), true)
        else
         some ((a0, (a1, (a2, (a3, (a4, (a5, (a6, a7))))))), false)
      else
       if a8 = 4 then
        if a0 = 3 then
         some ((a7, (a1, (a2, (a3, (a4, (a5, (a6, 0))))))), true)
        else
         some ((a0, (a1, (a2, (a3, (a4, (a5, (a6, a7))))))), false)
       else
        if a8 = 6 then
         some ((0, (a1, (a2, (a3, (0, (0, (a6, 0))))))), true)
        else
         some ((a0, (a1, (a2, (a3, (a4, (a5, (a6, a7))))))), false)
   else
    some ((a0, (a1, (a2, (a3, (a4, (a5, (a6, a7))))))), false)
  else
   some ((a0, (a1, (a2, (a3, (a4, (a5, (a6, a7))))))), false)
noncomputable def g_impl_Take : (Int × Int × Int × Int × Int × Int × Int × Int) × (Int × Int × Int × Int) → Option ((Int × Int × Int × Int × Int × Int × Int × Int) × Bool) := impl_Take_ (fun _ => g_impl_OrderOk) (fun _ => g_impl_PumpOk) 0
theorem e_impl_Take : ∀ x b, g_impl_Take x = some b → ∃ k, impl_Take_ (fun _ => g_impl_OrderOk) (fun _ => g_impl_PumpOk) k x = some b := fun x b h => ⟨0, h⟩
/- spec_l15Less -/
def con_spec_l15Less (f : Nat → Int × Int → Option (Int)) : Con := ⟨[.c (.int .i64), .c (.int .i64)], 1, [.v false [.int .i64]], f⟩
def spec_l15Less_ (k : Nat) : Int × Int → Option (Int)
  | (a0, a1) =>
  if a0 < a1 then
   some a0
  else
   some a1
noncomputable def g_spec_l15Less : Int × Int → Option (Int) := spec_l15Less_  0
theorem e_spec_l15Less : ∀ x b, g_spec_l15Less x = some b → ∃ k, spec_l15Less_  k x = some b := fun x b h => ⟨0, h⟩
/- spec_RateOk -/
def con_spec_RateOk (f : Nat → (Int × Int × Int) → Option (Bool)) : Con := ⟨[.agg [.int .i64, .int .i64, .int .i64]], 1, [.v false [.bool]], f⟩
def spec_RateOk_ (spec_l01In : Nat → Int × Int × Int → Option (Bool)) (k : Nat) : (Int × Int × Int) → Option (Bool)
  | (a0, a1, a2) =>
  (spec_l01In k (a0, (0, 1000000))).bind fun v0 =>
  if v0 = true then
   (spec_l01In k (a1, (1, 1000000))).bind fun v1 =>
   if v1 = true then
    (spec_l01In k (a2, (0, (wrap64 (a1 - 1))))).bind fun v2 =>
    some v2
   else
    some false
  else
   some false
noncomputable def g_spec_RateOk : (Int × Int × Int) → Option (Bool) := spec_RateOk_ (fun _ => g_spec_l01In) 0
theorem e_spec_RateOk : ∀ x b, g_spec_RateOk x = some b → ∃ k, spec_RateOk_ (fun _ => g_spec_l01In) k x = some b := fun x b h => ⟨0, h⟩
/- spec_StepRate -/
def con_spec_StepRate (f : Nat → (Int × Int × Int) → Option ((Int × Int × Int) × Int)) : Con := ⟨[.agg [.int .i64, .int .i64, .int .i64]], 2, [.v true [.int .i64, .int .i64, .int .i64], .v false [.int .i64]], f⟩
def spec_StepRate_ (spec_RateOk : Nat → (Int × Int × Int) → Option (Bool)) (k : Nat) : (Int × Int × Int) → Option ((Int × Int × Int) × Int)
  | (a0, a1, a2) =>
  (spec_RateOk k (a0, (a1, a2))).bind fun v0 =>
  if v0 = true then
   if a1 = 0 then
    none
   else
    if a1 = 0 then
     none
    else
     some ((a0, (a1, (Int.tmod (wrap64 (a2 + a0)) a1))), (wrap64 (Int.tdiv (wrap64 (a2 + a0)) a1)))
  else
   some ((a0, (a1, a2)), 0)
noncomputable def g_spec_StepRate : (Int × Int × Int) → Option ((Int × Int × Int) × Int) := spec_StepRate_ (fun _ => g_spec_RateOk) 0
theorem e_spec_StepRate : ∀ x b, g_spec_StepRate x = some b → ∃ k, spec_StepRate_ (fun _ => g_spec_RateOk) k x = some b := fun x b h => ⟨0, h⟩
/- spec_PumpOk -/
def con_spec_PumpOk (f : Nat → (Int × Int × Int × Int × Int × Int × Int × Int) → Option (Bool)) : Con := ⟨[.agg [.int .i64, .int .i64, .int .i64, .int .i64, .int .i64, .int .i64, .int .i64, .int .i64]], 1, [.v false [.bool]], f⟩
def spec_PumpOk_ (spec_RateOk : Nat → (Int × Int × Int) → Option (Bool)) (spec_l01In : Nat → Int × Int × Int → Option (Bool)) (k : Nat) : (Int × Int × Int × Int × Int × Int × Int × Int) → Option (Bool)
  | (a0, a1, a2, a3, a4, a5, a6, a7) =>
  if a0 = 1 then
   (spec_l01In k (a0, (0, 3))).bind fun v0 =>
   if v0 = true then
    (spec_RateOk k (a1, (a2, a3))).bind fun v1 =>
    if v1 = true then
     if (wrap64 (3 * a2)) < a1 then
      some false
     else
      (spec_l01In k (a4, (0, 5000))).bind fun v2 =>
      if v2 = true then
       if ((decide (0 < a4)) == true) = true then
        (spec_l01In k (a5, (0, 100))).bind fun v3 =>
        if v3 = true then
         (spec_l01In k (a6, (0, 1000000000000))).bind fun v4 =>
         if v4 = true then
          (spec_l01In k (a7, (0, 2))).bind fun v5 =>
          if v5 = true then
           if a0 = 3 then
            some true
           else
            some (decide (a7 = 0))
          else
           some false
         else
          some false
        else
         some false
       else
        some false
      else
       some false
    else
     some false
   else
    some false
  else
   if a0 = 3 then
    (spec_l01In k (a0, (0, 3))).bind fun v6 =>
    if v6 = true then
     (spec_RateOk k (a1, (a2, a3))).bind fun v7 =>
     if v7 = true then
      if (wrap64 (3 * a2)) < a1 then
       some false
      else
       (spec_l01In k (a4, (0, 5000))).bind fun v8 =>
       if v8 = true then
        if ((decide (0 < a4)) == (decide (a7 = 1))) = true then
         (spec_l01In k (a5, (0, 100))).bind fun v9 =>
         if v9 = true then
          (spec_l01In k (a6, (0, 1000000000000))).bind fun v10 =>
          if v10 = true then
           (spec_l01In k (a7, (0, 2))).bind fun v11 =>
           if v11 = true then
            if a0 = 3 then
             some true
            else
             some (decide (a7 = 0))
           else
            some false
          else
           some false
         else
          some false
        else
         some false
       else
        some false
     else
      some false
    else
     some false
   else
    (spec_l01In k (a0, (0, 3))).bind fun v12 =>
    if v12 = true then
     (spec_RateOk k (a1, (a2, a3))).bind fun v13 =>
     if v13 = true then
      if (wrap64 (3 * a2)) < a1 then
       some false
      else
       (spec_l01In k (a4, (0, 5000))).bind fun v14 =>
       if v14 = true then
        if ((decide (0 < a4)) == false) = true then
         (spec_l01In k (a5, (0, 100))).bind fun v15 =>
         if v15 = true then
          (spec_l01In k (a6, (0, 1000000000000))).bind fun v16 =>
          if v16 = true then
           (spec_l01In k (a7, (0, 2))).bind fun v17 =>
           if v17 = true then
            if a0 = 3 then
             some true
            else
             some (decide (a7 = 0))
           else
            some false
          else
           some false
         else
          some false
        else
         some false
       else
        some false
     else
      some false
    else
     some false
noncomputable def g_spec_PumpOk : (Int × Int × Int × Int × Int × Int × Int × Int) → Option (Bool) := spec_PumpOk_ (fun _ => g_spec_RateOk) (fun _ => g_spec_l01In) 0
theorem e_spec_PumpOk : ∀ x b, g_spec_PumpOk x = some b → ∃ k, spec_PumpOk_ (fun _ => g_spec_RateOk) (fun _ => g_spec_l01In) k x = some b := fun x b h => ⟨0, h⟩
/- spec_Wants -/
def con_spec_Wants (f : Nat → (Int × Int × Int × Int × Int × Int × Int × Int) → Option (Int)) : Con := ⟨[.agg [.int .i64, .int .i64, .int .i64, .int .i64, .int .i64, .int .i64, .int .i64, .int .i64]], 1, [.v false [.int .i64]], f⟩
def spec_Wants_ (spec_PumpOk : Nat → (Int × Int × Int × Int × Int × Int × Int × Int) → Option (Bool)) (spec_StepRate : Nat → (Int × Int × Int) → Option ((Int × Int × Int) × Int)) (spec_l15Less : Nat → Int × Int → Option (Int)) (k : Nat) : (Int × Int × Int × Int × Int × Int × Int × Int) → Option (Int)
  | (a0, a1, a2, a3, a4, a5, a6, a7) =>
  (spec_PumpOk k (a0, (a1, (a2, (a3, (a4, (a5, (a6, a7)))))))).bind fun v0 =>
  if v0 = true then
   if a0 = 1 then
    (spec_StepRate k (a1, (a2, a3))).bind fun v1 =>
    if a0 = 1 then
     (spec_l15Less k (v1.2, a4)).bind fun v2 =>
     (spec_l15Less k (a5, 3)).bind fun v3 =>
     some (wrap64 (v2 + v3))
    else
     (spec_l15Less k (a5, 3)).bind fun v4 =>
     some (wrap64 (v1.2 + v4))
   else
    if a0 = 2 then
     (spec_StepRate k (a1, (a2, a3))).bind fun v5 =>
     if a0 = 1 then
      (spec_l15Less k (v5.2, a4)).bind fun v6 =>
      (spec_l15Less k (a5, 3)).bind fun v7 =>
      some (wrap64 (v6 + v7))
     else
      (spec_l15Less k (a5, 3)).bind fun v8 =>
      some (wrap64 (v5.2 + v8))
    else
     some 0
  else
   some 0
noncomputable def g_spec_Wants : (Int × Int × Int × Int × Int × Int × Int × Int) → Option (Int) := spec_Wants_ (fun _ => g_spec_PumpOk) (fun _ => g_spec_StepRate) (fun _ => g_spec_l15Less) 0
theorem e_spec_Wants : ∀ x b, g_spec_Wants x = some b → ∃ k, spec_Wants_ (fun _ => g_spec_PumpOk) (fun _ => g_spec_StepRate) (fun _ => g_spec_l15Less) k x = some b := fun x b h => ⟨0, h⟩
/- spec_Give -/
def con_spec_Give (f : Nat → (Int × Int × Int × Int × Int × Int × Int × Int) × Int → Option ((Int × Int × Int × Int × Int × Int × Int × Int))) : Con := ⟨[.agg [.int .i64, .int .i64, .int .i64, .int .i64, .int .i64, .int .i64, .int .i64, .int .i64], .c (.int .i64)], 1, [.v true [.int .i64, .int .i64, .int .i64, .int .i64, .int .i64, .int .i64, .int .i64, .int .i64]], f⟩
def spec_Give_ (spec_PumpOk : Nat → (Int × Int × Int × Int × Int × Int × Int × Int) → Option (Bool)) (spec_StepRate : Nat → (Int × Int × Int) → Option ((Int × Int × Int) × Int)) (spec_Wants : Nat → (Int × Int × Int × Int × Int × Int × Int × Int) → Option (Int)) (spec_l15Less : Nat → Int × Int → Option (Int)) (k : Nat) : (Int × Int × Int × Int × Int × Int × Int × Int) × Int → Option ((Int × Int × Int × Int × Int × Int × Int × Int))
  | ((a0, a1, a2, a3, a4, a5, a6, a7), a8) =>
  (spec_PumpOk k (a0, (a1, (a2, (a3, (a4, (a5, (a6, a7)))))))).bind fun v0 =>
  if v0 = true then
   if a0 = 1 then
    (spec_Wants k (a0, (a1, (a2, (a3, (a4, (a5, (a6, a7)))))))).bind fun v1 =>
    (spec_l15Less k (a8, v1)).bind fun v2 =>
    if v2 < 0 then
     (spec_StepRate k (a1, (a2, a3))).bind fun v3 =>
     (spec_l15Less k (a5, 3)).bind fun v4 =>
     (spec_l15Less k (0, v4)).bind fun v5 =>
     if a0 = 1 then
      (spec_l15Less k ((wrap64 (a6 + 0)), 1000000000000)).bind fun v6 =>
      if a0 = 1 then
       if (wrap64 (a4 - (wrap64 (0 - v5)))) = 0 then
        some (2, (1, (50, (0, ((wrap64 (a4 - (wrap64 (0 - v5)))), ((wrap64 (a5 - v5)), (v6, a7)))))))
       else
        some (a0, (v3.1.1, (v3.1.2.1, (v3.1.2.2, ((wrap64 (a4 - (wrap64 (0 - v5)))), ((wrap64 (a5 - v5)), (v6, a7)))))))
      else
       some (a0, (v3.1.1, (v3.1.2.1, (v3.1.2.2, ((wrap64 (a4 - (wrap64 (0 - v5)))), ((wrap64 (a5 - v5)), (v6, a7)))))))
     else
      (spec_l15Less k ((wrap64 (a6 + 0)), 1000000000000)).bind fun v7 =>
      if a0 = 1 then
       if a4 = 0 then
        some (2, (1, (50, (0, (a4, ((wrap64 (a5 - v5)), (v7, a7)))))))
       else
        some (a0, (v3.1.1, (v3.1.2.1, (v3.1.2.2, (a4, ((wrap64 (a5 - v5)), (v7, a7)))))))
      else
       some (a0, (v3.1.1, (v3.1.2.1, (v3.1.2.2, (a4, ((wrap64 (a5 - v5)), (v7, a7)))))))
    else
     (spec_StepRate k (a1, (a2, a3))).bind fun v8 =>
     (spec_l15Less k (a5, 3)).bind fun v9 =>
     (spec_l15Less k (v2, v9)).bind fun v10 =>
     if a0 = 1 then
      (spec_l15Less k ((wrap64 (a6 + v2)), 1000000000000)).bind fun v11 =>
      if a0 = 1 then
       if (wrap64 (a4 - (wrap64 (v2 - v10)))) = 0 then
        some (2, (1, (50, (0, ((wrap64 (a4 - (wrap64 (v2 - v10)))), ((wrap64 (a5 - v10)), (v11, a7)))))))
       else
        some (a0, (v8.1.1, (v8.1.2.1, (v8.1.2.2, ((wrap64 (a4 - (wrap64 (v2 - v10)))), ((wrap64 (a5 - v10)), (v11, a7)))))))
      else
       some (a0, (v8.1.1, (v8.1.2.1, (v8.1.2.2, ((wrap64 (a4 - (wrap64 (v2 - v10)))), ((wrap64 (a5 - v10)), (v11, a7)))))))
     else
      (spec_l15Less k ((wrap64 (a6 + v2)), 1000000000000)).bind fun v12 =>
      if a0 = 1 then
       if a4 = 0 then
        some (2, (1, (50, (0, (a4, ((wrap64 (a5 - v10)), (v12, a7)))))))
       else
        some (a0, (v8.1.1, (v8.1.2.1, (v8.1.2.2, (a4, ((wrap64 (a5 - v10)), (v12, a7)))))))
      else
       some (a0, (v8.1.1, (v8.1.2.1, (v8.1.2.2, (a4, ((wrap64 (a5 - v10)), (v12, a7)))))))
   else
    if a0 = 2 then
     (spec_Wants k (a0, (a1, (a2, (a3, (a4, (a5, (a6, a7)))))))).bind fun v13 =>
     (spec_l15Less k (a8, v13)).bind fun v14 =>
     if v14 < 0 then
      (spec_StepRate k (a1, (a2, a3))).bind fun v15 =>
      (spec_l15Less k (a5, 3)).bind fun v16 =>
      (spec_l15Less k (0, v16)).bind fun v17 =>
      if a0 = 1 then
       (spec_l15Less k ((wrap64 (a6 + 0)), 1000000000000)).bind fun v18 =>
       if a0 = 1 then
        if (wrap64 (a4 - (wrap64 (0 - v17)))) = 0 then
         some (2, (1, (50, (0, ((wrap64 (a4 - (wrap64 (0 - v17)))), ((wrap64 (a5 - v17)), (v18, a7)))))))
        else
         some (a0, (v15.1.1, (v15.1.2.1, (v15.1.2.2, ((wrap64 (a4 - (wrap64 (0 - v17)))), ((wrap64 (a5 - v17)), (v18, a7)))))))
       else
        some (a0, (v15.1.1, (v15.1.2.1, (v15.1.2.2, ((wrap64 (a4 - (wrap64 (0 - v17)))), ((wrap64 (a5 - v17)), (v18, a7)))))))
      else
       (spec_l15Less k ((wrap64 (a6 + 0)), 1000000000000)).bind fun v19 =>
       if a0 = 1 then
        if a4 = 0 then
         some (2, (1, (50, (0, (a4, ((wrap64 (a5 - v17)), (v19, a7)))))))
        else
         some (a0, (v15.1.1, (v15.1.2.1, (v15.1.2.2, (a4, ((wrap64 (a5 - v17)), (v19, a7)))))))
       else
        some (a0, (v15.1.1, (v15.1.2.1, (v15.1.2.2, (a4, ((wrap64 (a5 - v17)), (v19, a7)))))))
     else
      (spec_StepRate k (a1, (a2, a3))).bind fun v20 =>
      (spec_l15Less k (a5, 3)).bind fun v21 =>
      (spec_l15Less k (v14, v21)).bind fun v22 =>
      if a0 = 1 then
       (spec_l15Less k ((wrap64 (a6 + v14)), 1000000000000)).bind fun v23 =>
       if a0 = 1 then
        if (wrap64 (a4 - (wrap64 (v14 - v22)))) = 0 then
         some (2, (1, (50, (0, ((wrap64 (a4 - (wrap64 (v14 - v22)))), ((wrap64 (a5 - v22)), (v23, a7)))))))
        else
         some (a0, (v20.1.1, (v20.1.2.1, (v20.1.2.2, ((wrap64 (a4 - (wrap64 (v14 - v22)))), ((wrap64 (a5 - v22)), (v23, a7)))))))
       else
        some (a0, (v20.1.1, (v20.1.2.1, (v20.1.2.2, ((wrap64 (a4 - (wrap64 (v14 - v22)))), ((wrap64 (a5 - v22)), (v23, a7)))))))
      else
       (spec_l15Less k ((wrap64 (a6 + v14)), 1000000000000)).bind fun v24 =>
       if a0 = 1 then
        if a4 = 0 then
         some (2, (1, (50, (0, (a4, ((wrap64 (a5 - v22)), (v24, a7)))))))
        else
         some (a0, (v20.1.1, (v20.1.2.1, (v20.1.2.2, (a4, ((wrap64 (a5 - v22)), (v24, a7)))))))
       else
        some (a0, (v20.1.1, (v20.1.2.1, (v20.1.2.2, (a4, ((wrap64 (a5 - v22)), (v24, a7)))))))
    else
     some (a0, (a1, (a2, (a3, (a4, (a5, (a6, a7)))))))
  else
   some (a0, (a1, (a2, (a3, (a4, (a5, (a6, a7)))))))
noncomputable def g_spec_Give : (Int × Int × Int × Int × Int × Int × Int × Int) × Int → Option ((Int × Int × Int × Int × Int × Int × Int × Int)) := spec_Give_ (fun _ => g_spec_PumpOk) (fun _ => g_spec_StepRate) (fun _ => g_spec_Wants) (fun _ => g_spec_l15Less) 0
theorem e_spec_Give : ∀ x b, g_spec_Give x = some b → ∃ k, spec_Give_ (fun _ => g_spec_PumpOk) (fun _ => g_spec_StepRate) (fun _ => g_spec_Wants) (fun _ => g_spec_l15Less) k x = some b := fun x b h => ⟨0, h⟩
/- spec_Take -/
def con_spec_Take (f : Nat → (Int × Int × Int × Int × Int × Int × Int × Int) × (Int × Int × Int × Int) → Option ((Int × Int × Int × Int × Int × Int × Int × Int) × Bool)) : Con := ⟨[.agg [.int .i64, .int .i64, .int .i64, .int .i64, .int .i64, .int .i64, .int .i64, .int .i64], .agg [.int .i64, .int .i64, .int .i64, .int .i64]], 2, [.v true [.int .i64, .int .i64, .int .i64, .int .i64, .int .i64, .int .i64, .int .i64, .int .i64], .v false [.bool]], f⟩
def spec_Take_ (spec_OrderOk : Nat → (Int × Int × Int × Int) → Option (Bool)) (spec_PumpOk : Nat → (Int × Int × Int × Int × Int × Int × Int × Int) → Option (Bool)) (k : Nat) : (Int × Int × Int × Int × Int × Int × Int × Int) × (Int × Int × Int × Int) → Option ((Int × Int × Int × Int × Int × Int × Int × Int) × Bool)
  | ((a0, a1, a2, a3, a4, a5, a6, a7), (a8, a9, a10, a11)) =>
  (spec_PumpOk k (a0, (a1, (a2, (a3, (a4, (a5, (a6, a7)))))))).bind fun v0 =>
  if v0 = true then
   (spec_OrderOk k (a8, (a9, (a10, a11)))).bind fun v1 =>
   if v1 = true then
    if a8 = 1 then
     if a0 = 0 then
      some ((1, (a9, (a10, (0, (a11, (a5, (a6, a7))))))), true)
     else
      if a0 = 2 then
       some ((1, (a9, (a10, (0, (a11, (a5, (a6, a7))))))), true)
      else
       some ((a0, (a1, (a2, (a3, (a4, (a5, (a6, a7))))))), false)
    else
     if a8 = 2 then
      if a0 = 0 then
       some ((a0, (a1, (a2, (a3, (a4, (a5, (a6, a7))))))), false)
      else
       if a0 = 3 then
        some ((a0, (a1, (a2, (a3, (a4, (a5, (a6, a7))))))), false)
       else
        if 0 < a5 then
         some ((a0, (a1, (a2, (a3, (a4, (a5, (a6, a7))))))), false)
        else
         some ((a0, (a1, (a2, (a3, (a4, (a11, (a6, a7))))))), true)
     else
      if a8 = 3 then
       if a0 = 0 then
        some ((a0, (a1, (a2, (a3, (a4, (a5, (a6, a7))))))), false)
       else
        if a0 = 3 then
         some ((a0, (a1, (a2, (a3, (a4, (a5, (a6, a7))))))), false)
        else
         some ((3, (a1, (a2, (a3, (a4, (a5, (a6, a0))))))), true)
      else
       if a8 = 4 then
        if a0 = 3 then
         some ((a7, (a1, (a2, (a3, (a4, (a5, (a6, 0))))))), true)
        else
         some ((a0, (a1, (a2, (a3, (a4, (a5, (a6, a7))))))), false)
       else
        if a8 = 6 then
         some ((0, (a1, (a2, (a3, (0, (0, (a6, 0))))))), true)
        else
         some ((a0, (a1, (a2, (a3, (a4, (a5, (a6, a7))))))), false)
   else
    some ((a0, (a1, (a2, (a3, (a4, (a5, (a6, a7))))))), false)
  else
   some ((a0, (a1, (a2, (a3, (a4, (a5, (a6, a7))))))), false)
noncomputable def g_spec_Take : (Int × Int × Int × Int × Int × Int × Int × Int) × (Int × Int × Int × Int) → Option ((Int × Int × Int × Int × Int × Int × Int × Int) × Bool) := spec_Take_ (fun _ => g_spec_OrderOk) (fun _ => g_spec_PumpOk) 0
theorem e_spec_Take : ∀ x b, g_spec_Take x = some b → ∃ k, spec_Take_ (fun _ => g_spec_OrderOk) (fun _ => g_spec_PumpOk) k x = some b := fun x b h => ⟨0, h⟩
/- spec_l14Order -/
def con_spec_l14Order (f : Nat → (List Int × Int × Int) → Option ((Int × Int × Int × Int) × (Unit × Int × Int))) : Con := ⟨[.ptr [.sl (.int .u8), .int .i64, .int .i64] 155], 1, [.v true [.int .i64, .int .i64, .int .i64, .int .i64], .box [.keep, .int .i64, .int .i64] 155], f⟩
def spec_l14Order_ (spec_l01Below : Nat → (List Int × Int × Int) × Int → Option (Int × (Unit × Int × Int))) (spec_l01PickInt : Nat → (List Int × Int × Int) × List Int → Option (Int × (Unit × Int × Int))) (k : Nat) : (List Int × Int × Int) → Option ((Int × Int × Int × Int) × (Unit × Int × Int))
  | (a0, a1, a2) =>
  (spec_l01PickInt k ((a0, (a1, a2)), [1, 1, 1, 2, 2, 3, 4, 5, 6])).bind fun v0 =>
  if v0.1 = 1 then
   (spec_l01Below k ((a0, v0.2.2), 9)).bind fun v1 =>
   (spec_l01Below k ((a0, v1.2.2), (wrap64 (3 * (wrap64 (1 + v1.1)))))).bind fun v2 =>
   (spec_l01Below k ((a0, v2.2.2), 60)).bind fun v3 =>
   some ((v0.1, ((wrap64 (1 + v2.1)), ((wrap64 (1 + v1.1)), (wrap64 (1 + v3.1))))), ((), v3.2.2))
  else
   if v0.1 = 2 then
    (spec_l01Below k ((a0, v0.2.2), 40)).bind fun v4 =>
    some ((v0.1, (0, (0, (wrap64 (1 + v4.1))))), ((), v4.2.2))
   else
    some ((v0.1, (0, (0, 0))), ((), v0.2.2))
noncomputable def g_spec_l14Order : (List Int × Int × Int) → Option ((Int × Int × Int × Int) × (Unit × Int × Int)) := spec_l14Order_ (fun _ => g_spec_l01Below) (fun _ => g_spec_l01PickInt) 0
theorem e_spec_l14Order : ∀ x b, g_spec_l14Order x = some b → ∃ k, spec_l14Order_ (fun _ => g_spec_l01Below) (fun _ => g_spec_l01PickInt) k x = some b := fun x b h => ⟨0, h⟩
/- spec_l01Once -/
def con_spec_l01Once (f : Nat → (List Int × Int × Int) × Int → Option (Bool × (Unit × Int × Int))) : Con := ⟨[.ptr [.sl (.int .u8), .int .i64, .int .i64] 155, .c (.int .i64)], 1, [.v false [.bool], .box [.keep, .int .i64, .int .i64] 155], f⟩
def spec_l01Once_ (spec_l01Below : Nat → (List Int × Int × Int) × Int → Option (Int × (Unit × Int × Int))) (k : Nat) : (List Int × Int × Int) × Int → Option (Bool × (Unit × Int × Int))
  | ((a0, a1, a2), a3) =>
  (spec_l01Below k ((a0, (a1, a2)), a3)).bind fun v0 =>
  some ((decide (v0.1 = 0)), ((), v0.2.2))
noncomputable def g_spec_l01Once : (List Int × Int × Int) × Int → Option (Bool × (Unit × Int × Int)) := spec_l01Once_ (fun _ => g_spec_l01Below) 0
theorem e_spec_l01Once : ∀ x b, g_spec_l01Once x = some b → ∃ k, spec_l01Once_ (fun _ => g_spec_l01Below) k x = some b := fun x b h => ⟨0, h⟩
/- spec_l15Pump -/
def con_spec_l15Pump (f : Nat → (List Int × Int × Int) → Option ((Int × Int × Int × Int × Int × Int × Int × Int) × (Unit × Int × Int))) : Con := ⟨[.ptr [.sl (.int .u8), .int .i64, .int .i64] 155], 1, [.v true [.int .i64, .int .i64, .int .i64, .int .i64, .int .i64, .int .i64, .int .i64, .int .i64], .box [.keep, .int .i64, .int .i64] 155], f⟩
def spec_l15Pump_L3 (spec_Give : Nat → (Int × Int × Int × Int × Int × Int × Int × Int) × Int → Option ((Int × Int × Int × Int × Int × Int × Int × Int))) (spec_PumpNew : Nat → Unit → Option ((Int × Int × Int × Int × Int × Int × Int × Int))) (spec_Take : Nat → (Int × Int × Int × Int × Int × Int × Int × Int) × (Int × Int × Int × Int) → Option ((Int × Int × Int × Int × Int × Int × Int × Int) × Bool)) (spec_l01Below : Nat → (List Int × Int × Int) × Int → Option (Int × (Unit × Int × Int))) (spec_l01Once : Nat → (List Int × Int × Int) × Int → Option (Bool × (Unit × Int × Int))) (spec_l14Order : Nat → (List Int × Int × Int) → Option ((Int × Int × Int × Int) × (Unit × Int × Int))) : Nat → Int × Int × Int × List Int × Int × Int × Int × Int × Int × Int × Int × Int × Int × Int × Int × Int × Int × Int × Int × Int × Unit → Option ((Int × Int × Int × Int × Int × Int × Int × Int) × (Unit × Int × Int))
  | 0, _ => none
  | k + 1, (b0, b1, b2, b3, b4, b5, b6, b7, b8, b9, b10, b11, b12, b13, b14, b15, b16, b17, b18, b19, ()) =>
    (spec_l01Below k ((b3, (b1, b2)), 14)).bind fun v0 =>
    if b0 < v0.1 then
     (spec_l01Once k ((b3, v0.2.2), 3)).bind fun v1 =>
     if v1.1 = true then
      (spec_l14Order k (b3, v1.2.2)).bind fun v2 =>
      (spec_Take k ((b12, (b13, (b14, (b15, (b16, (b17, (b18, b19))))))), v2.1)).bind fun v3 =>
      spec_l15Pump_L3 spec_Give spec_PumpNew spec_Take spec_l01Below spec_l01Once spec_l14Order k ((wrap64 (b0 + 1)), v2.2.2.1, v2.2.2.2, b3, b4, b5, b6, b7, b8, b9, b10, b11, v3.1.1, v3.1.2.1, v3.1.2.2.1, v3.1.2.2.2.1, v3.1.2.2.2.2.1, v3.1.2.2.2.2.2.1, v3.1.2.2.2.2.2.2.1, v3.1.2.2.2.2.2.2.2, ())
     else
      (spec_l01Below k ((b3, v1.2.2), 8)).bind fun v4 =>
      (spec_Give k ((b12, (b13, (b14, (b15, (b16, (b17, (b18, b19))))))), v4.1)).bind fun v5 =>
      spec_l15Pump_L3 spec_Give spec_PumpNew spec_Take spec_l01Below spec_l01Once spec_l14Order k ((wrap64 (b0 + 1)), v4.2.2.1, v4.2.2.2, b3, b4, b5, b6, b7, b8, b9, b10, b11, v5.1, v5.2.1, v5.2.2.1, v5.2.2.2.1, v5.2.2.2.2.1, v5.2.2.2.2.2.1, v5.2.2.2.2.2.2.1, v5.2.2.2.2.2.2.2, ())
    else
     some ((b12, (b13, (b14, (b15, (b16, (b17, (b18, b19))))))), ((), v0.2.2))
def spec_l15Pump_ (spec_Give : Nat → (Int × Int × Int × Int × Int × Int × Int × Int) × Int → Option ((Int × Int × Int × Int × Int × Int × Int × Int))) (spec_PumpNew : Nat → Unit → Option ((Int × Int × Int × Int × Int × Int × Int × Int))) (spec_Take : Nat → (Int × Int × Int × Int × Int × Int × Int × Int) × (Int × Int × Int × Int) → Option ((Int × Int × Int × Int × Int × Int × Int × Int) × Bool)) (spec_l01Below : Nat → (List Int × Int × Int) × Int → Option (Int × (Unit × Int × Int))) (spec_l01Once : Nat → (List Int × Int × Int) × Int → Option (Bool × (Unit × Int × Int))) (spec_l14Order : Nat → (List Int × Int × Int) → Option ((Int × Int × Int × Int) × (Unit × Int × Int))) (k : Nat) : (List Int × Int × Int) → Option ((Int × Int × Int × Int × Int × Int × Int × Int) × (Unit × Int × Int))
  | (a0, a1, a2) =>
  (spec_PumpNew k ()).bind fun v0 =>
  spec_l15Pump_L3 spec_Give spec_PumpNew spec_Take spec_l01Below spec_l01Once spec_l14Order k (0, a1, a2, a0, 0, 0, 0, 0, 0, 0, 0, 0, v0.1, v0.2.1, v0.2.2.1, v0.2.2.2.1, v0.2.2.2.2.1, v0.2.2.2.2.2.1, v0.2.2.2.2.2.2.1, v0.2.2.2.2.2.2.2, ())
noncomputable def g_spec_l15Pump : (List Int × Int × Int) → Option ((Int × Int × Int × Int × Int × Int × Int × Int) × (Unit × Int × Int)) := evG (spec_l15Pump_ (fun _ => g_spec_Give) (fun _ => g_spec_PumpNew) (fun _ => g_spec_Take) (fun _ => g_spec_l01Below) (fun _ => g_spec_l01Once) (fun _ => g_spec_l14Order))
theorem e_spec_l15Pump : ∀ x b, g_spec_l15Pump x = some b → ∃ k, spec_l15Pump_ (fun _ => g_spec_Give) (fun _ => g_spec_PumpNew) (fun _ => g_spec_Take) (fun _ => g_spec_l01Below) (fun _ => g_spec_l01Once) (fun _ => g_spec_l14Order) k x = some b := evG_e _
/- spec_DrawPump -/
def con_spec_DrawPump (f : Nat → List Int → Option ((Int × Int × Int × Int × Int × Int × Int × Int))) : Con := ⟨[.c (.sl (.int .u8))], 1, [.v true [.int .i64, .int .i64, .int .i64, .int .i64, .int .i64, .int .i64, .int .i64, .int .i64]], f⟩
def spec_DrawPump_ (spec_l01New : Nat → List Int → Option ((Unit × Int × Int))) (spec_l15Pump : Nat → (List Int × Int × Int) → Option ((Int × Int × Int × Int × Int × Int × Int × Int) × (Unit × Int × Int))) (k : Nat) : List Int → Option ((Int × Int × Int × Int × Int × Int × Int × Int))
  | a0 =>
  (spec_l01New k a0).bind fun v0 =>
  (spec_l15Pump k (a0, v0.2)).bind fun v1 =>
  some v1.1
noncomputable def g_spec_DrawPump : List Int → Option ((Int × Int × Int × Int × Int × Int × Int × Int)) := spec_DrawPump_ (fun _ => g_spec_l01New) (fun _ => g_spec_l15Pump) 0
theorem e_spec_DrawPump : ∀ x b, g_spec_DrawPump x = some b → ∃ k, spec_DrawPump_ (fun _ => g_spec_l01New) (fun _ => g_spec_l15Pump) k x = some b := fun x b h => ⟨0, h⟩
/- laws_FnPauses -/
def con_laws_FnPauses (f : Nat → List Int → Option (Bool)) : Con := ⟨[.c (.sl (.int .u8))], 1, [.v false [.bool]], f⟩
def laws_FnPauses_ (impl_Give : Nat → (Int × Int × Int × Int × Int × Int × Int × Int) × Int → Option ((Int × Int × Int × Int × Int × Int × Int × Int))) (impl_Take : Nat → (Int × Int × Int × Int × Int × Int × Int × Int) × (Int × Int × Int × Int) → Option ((Int × Int × Int × Int × Int × Int × Int × Int) × Bool)) (impl_Wants : Nat → (Int × Int × Int × Int × Int × Int × Int × Int) → Option (Int)) (laws_big : Nat → List Int → Option (Bool)) (spec_DrawPump : Nat → List Int → Option ((Int × Int × Int × Int × Int × Int × Int × Int))) (k : Nat) : List Int → Option (Bool)
  | a0 =>
  (laws_big k a0).bind fun v0 =>
  if v0 = true then
   some true
  else
   (spec_DrawPump k a0).bind fun v1 =>
   (impl_Take k (v1, (3, (0, (0, 0))))).bind fun v2 =>
   if v1.1 = 1 then
    if (v2.2 == true) = true then
     (impl_Take k (v1, (6, (0, (0, 0))))).bind fun v3 =>
     if v3.2 = true then
      if v3.1.1 = 0 then
       if v3.1.2.2.2.2.1 = 0 then
        if v3.1.2.2.2.2.2.1 = 0 then
         if v3.1.2.2.2.2.2.2.1 = v1.2.2.2.2.2.2.1 then
          (impl_Wants k v3.1).bind fun v4 =>
          if v4 = 0 then
           if v2.2 = true then
            (impl_Take k (v2.1, (4, (0, (0, 0))))).bind fun v5 =>
            (impl_Take k (v1, (4, (0, (0, 0))))).bind fun v6 =>
            if v5.2 = true then
             if v5.1.1 = v1.1 then
              if v5.1.2.1 = v1.2.1 then
               if v5.1.2.2.1 = v1.2.2.1 then
                if v5.1.2.2.2.1 = v1.2.2.2.1 then
                 if v5.1.2.2.2.2.1 = v1.2.2.2.2.1 then
                  if v5.1.2.2.2.2.2.1 = v1.2.2.2.2.2.1 then
                   if v5.1.2.2.2.2.2.2.1 = v1.2.2.2.2.2.2.1 then
                    if v5.1.2.2.2.2.2.2.2 = v1.2.2.2.2.2.2.2 then
                     if v6.2 = true then
                      some false
                     else
                      (impl_Wants k v2.1).bind fun v7 =>
                      if v7 = 0 then
                       (impl_Give k (v2.1, 9)).bind fun v8 =>
                       some ((decide (v8.1 = v2.1.1)) && (((decide (v8.2.1 = v2.1.2.1)) && ((decide (v8.2.2.1 = v2.1.2.2.1)) && (decide (v8.2.2.2.1 = v2.1.2.2.2.1)))) && ((decide (v8.2.2.2.2.1 = v2.1.2.2.2.2.1)) && ((decide (v8.2.2.2.2.2.1 = v2.1.2.2.2.2.2.1)) && ((decide (v8.2.2.2.2.2.2.1 = v2.1.2.2.2.2.2.2.1)) && (decide (v8.2.2.2.2.2.2.2 = v2.1.2.2.2.2.2.2.2)))))))
                      else
                       some false
                    else
                     some false
                   else
                    some false
                  else
                   some false
                 else
                  some false
                else
                 some false
               else
                some false
              else
               some false
             else
              some false
            else
             some false
           else
            some ((decide (v2.1.1 = v1.1)) && (((decide (v2.1.2.1 = v1.2.1)) && ((decide (v2.1.2.2.1 = v1.2.2.1)) && (decide (v2.1.2.2.2.1 = v1.2.2.2.1)))) && ((decide (v2.1.2.2.2.2.1 = v1.2.2.2.2.1)) && ((decide (v2.1.2.2.2.2.2.1 = v1.2.2.2.2.2.1)) && ((decide (v2.1.2.2.2.2.2.2.1 = v1.2.2.2.2.2.2.1)) && (decide (v2.1.2.2.2.2.2.2.2 = v1.2.2.2.2.2.2.2)))))))
          else
           some false
         else
          some false
        else
         some false
       else
        some false
      else
       some false
     else
      some false
    else
     some false
   else
    if (v2.2 == (decide (v1.1 = 2))) = true then
     (impl_Take k (v1, (6, (0, (0, 0))))).bind fun v9 =>
     if v9.2 = true then
      if v9.1.1 = 0 then
       if v9.1.2.2.2.2.1 = 0 then
        if v9.1.2.2.2.2.2.1 = 0 then
         if v9.1.2.2.2.2.2.2.1 = v1.2.2.2.2.2.2.1 then
          (impl_Wants k v9.1).bind fun v10 =>
          if v10 = 0 then
           if v2.2 = true then
            (impl_Take k (v2.1, (4, (0, (0, 0))))).bind fun v11 =>
            (impl_Take k (v1, (4, (0, (0, 0))))).bind fun v12 =>
            if v11.2 = true then
             if v11.1.1 = v1.1 then
              if v11.1.2.1 = v1.2.1 then
               if v11.1.2.2.1 = v1.2.2.1 then
                if v11.1.2.2.2.1 = v1.2.2.2.1 then
                 if v11.1.2.2.2.2.1 = v1.2.2.2.2.1 then
                  if v11.1.2.2.2.2.2.1 = v1.2.2.2.2.2.1 then
                   if v11.1.2.2.2.2.2.2.1 = v1.2.2.2.2.2.2.1 then
                    if v11.1.2.2.2.2.2.2.2 = v1.2.2.2.2.2.2.2 then
                     if v12.2 = true then
                      some false
                     else
                      (impl_Wants k v2.1).bind fun v13 =>
                      if v13 = 0 then
                       (impl_Give k (v2.1, 9)).bind fun v14 =>
                       some ((decide (v14.1 = v2.1.1)) && (((decide (v14.2.1 = v2.1.2.1)) && ((decide (v14.2.2.1 = v2.1.2.2.1)) && (decide (v14.2.2.2.1 = v2.1.2.2.2.1)))) && ((decide (v14.2.2.2.2.1 = v2.1.2.2.2.2.1)) && ((decide (v14.2.2.2.2.2.1 = v2.1.2.2.2.2.2.1)) && ((decide (v14.2.2.2.2.2.2.1 = v2.1.2.2.2.2.2.2.1)) && (decide (v14.2.2.2.2.2.2.2 = v2.1.2.2.2.2.2.2.2)))))))
                      else
                       some false
                    else
                     some false
                   else
                    some false
                  else
                   some false
                 else
                  some false
                else
                 some false
               else
                some false
              else
               some false
             else
              some false
            else
             some false
           else
            some ((decide (v2.1.1 = v1.1)) && (((decide (v2.1.2.1 = v1.2.1)) && ((decide (v2.1.2.2.1 = v1.2.2.1)) && (decide (v2.1.2.2.2.1 = v1.2.2.2.1)))) && ((decide (v2.1.2.2.2.2.1 = v1.2.2.2.2.1)) && ((decide (v2.1.2.2.2.2.2.1 = v1.2.2.2.2.2.1)) && ((decide (v2.1.2.2.2.2.2.2.1 = v1.2.2.2.2.2.2.1)) && (decide (v2.1.2.2.2.2.2.2.2 = v1.2.2.2.2.2.2.2)))))))
          else
           some false
         else
          some false
        else
         some false
       else
        some false
      else
       some false
     else
      some false
    else
     some false
noncomputable def g_laws_FnPauses : List Int → Option (Bool) := laws_FnPauses_ (fun _ => g_impl_Give) (fun _ => g_impl_Take) (fun _ => g_impl_Wants) (fun _ => g_laws_big) (fun _ => g_spec_DrawPump) 0
theorem e_laws_FnPauses : ∀ x b, g_laws_FnPauses x = some b → ∃ k, laws_FnPauses_ (fun _ => g_impl_Give) (fun _ => g_impl_Take) (fun _ => g_impl_Wants) (fun _ => g_laws_big) (fun _ => g_spec_DrawPump) k x = some b := fun x b h => ⟨0, h⟩
end Go.Sx.T
