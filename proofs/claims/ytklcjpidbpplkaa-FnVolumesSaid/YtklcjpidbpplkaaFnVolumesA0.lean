/- Functions of the program as functions of Lean, and that the program keeps to them. -/
import Derived.Test.YtklcjpidbpplkaaSxP1
set_option maxRecDepth 100000
set_option linter.unusedVariables false
set_option linter.unusedSimpArgs false
namespace Go.Proofs
end Go.Proofs
namespace Go.Sx.T
open Go Go.Sx Go.Proofs Go.RowKit
/- impl_within -/
def con_impl_within (f : Nat → Int × Int × Int → Option (Bool)) : Con := ⟨[.c (.int .i64), .c (.int .i64), .c (.int .i64)], 1, [.v false [.bool]], f⟩
def impl_within_ (k : Nat) : Int × Int × Int → Option (Bool)
  | (a0, a1, a2) =>
  if a1 ≤ a0 then
   some (decide (a0 ≤ a2))
  else
   some false
noncomputable def g_impl_within : Int × Int × Int → Option (Bool) := impl_within_  0
theorem e_impl_within : ∀ x b, g_impl_within x = some b → ∃ k, impl_within_  k x = some b := fun x b h => ⟨0, h⟩
/- impl_RateOk -/
def con_impl_RateOk (f : Nat → (Int × Int × Int) → Option (Bool)) : Con := ⟨[.agg [.int .i64, .int .i64, .int .i64]], 1, [.v false [.bool]], f⟩
def impl_RateOk_ (impl_within : Nat → Int × Int × Int → Option (Bool)) (k : Nat) : (Int × Int × Int) → Option (Bool)
  | (a0, a1, a2) =>
  (impl_within k (a0, (0, 1000000))).bind fun v0 =>
  if v0 = true then
   (impl_within k (a1, (1, 1000000))).bind fun v1 =>
   if v1 = true then
    (impl_within k (a2, (0, (wrap64 (a1 - 1))))).bind fun v2 =>
    some v2
   else
    some false
  else
   some false
noncomputable def g_impl_RateOk : (Int × Int × Int) → Option (Bool) := impl_RateOk_ (fun _ => g_impl_within) 0
theorem e_impl_RateOk : ∀ x b, g_impl_RateOk x = some b → ∃ k, impl_RateOk_ (fun _ => g_impl_within) k x = some b := fun x b h => ⟨0, h⟩
/- impl_StepRate -/
def con_impl_StepRate (f : Nat → (Int × Int × Int) → Option ((Int × Int × Int) × Int)) : Con := ⟨[.agg [.int .i64, .int .i64, .int .i64]], 2, [.v true [.int .i64, .int .i64, .int .i64], .v false [.int .i64]], f⟩
def impl_StepRate_ (impl_RateOk : Nat → (Int × Int × Int) → Option (Bool)) (k : Nat) : (Int × Int × Int) → Option ((Int × Int × Int) × Int)
  | (a0, a1, a2) =>
  (impl_RateOk k (a0, (a1, a2))).bind fun v0 =>
  if v0 = true then
   if a1 = 0 then
    none
   else
    if a1 = 0 then
     none
    else
     some ((a0, (a1, (Int.tmod (wrap64 (a2 + a0)) a1))), (wrap64 (Int.tdiv (wrap64 (a2 + a0)) a1)))
  else
   some ((a0, (a1, a2)), 0)
noncomputable def g_impl_StepRate : (Int × Int × Int) → Option ((Int × Int × Int) × Int) := impl_StepRate_ (fun _ => g_impl_RateOk) 0
theorem e_impl_StepRate : ∀ x b, g_impl_StepRate x = some b → ∃ k, impl_StepRate_ (fun _ => g_impl_RateOk) k x = some b := fun x b h => ⟨0, h⟩
/- impl_PumpOk -/
def con_impl_PumpOk (f : Nat → (Int × Int × Int × Int × Int × Int × Int × Int) → Option (Bool)) : Con := ⟨[.agg [.int .i64, .int .i64, .int .i64, .int .i64, .int .i64, .int .i64, .int .i64, .int .i64]], 1, [.v false [.bool]], f⟩
def impl_PumpOk_ (impl_RateOk : Nat → (Int × Int × Int) → Option (Bool)) (impl_within : Nat → Int × Int × Int → Option (Bool)) (k : Nat) : (Int × Int × Int × Int × Int × Int × Int × Int) → Option (Bool)
  | (a0, a1, a2, a3, a4, a5, a6, a7) =>
  (impl_within k (a0, (0, 3))).bind fun v0 =>
  if v0 = true then
   (impl_RateOk k (a1, (a2, a3))).bind fun v1 =>
   if v1 = true then
    if (wrap64 (3 * a2)) < a1 then
     some false
    else
     (impl_within k (a7, (0, 2))).bind fun v2 =>
     if v2 = true then
      if a7 = 0 then
       if a0 = 1 then
        (impl_within k (a4, (0, 5000))).bind fun v3 =>
        if v3 = true then
         if (true == (decide (0 < a4))) = true then
          (impl_within k (a5, (0, 100))).bind fun v4 =>
          if v4 = true then
           (impl_within k (a6, (0, 1000000000000))).bind fun v5 =>
           some v5
          else
           some false
         else
          some false
        else
         some false
       else
        if a0 = 3 then
         (impl_within k (a4, (0, 5000))).bind fun v6 =>
         if v6 = true then
          if ((decide (a7 = 1)) == (decide (0 < a4))) = true then
           (impl_within k (a5, (0, 100))).bind fun v7 =>
           if v7 = true then
            (impl_within k (a6, (0, 1000000000000))).bind fun v8 =>
            some v8
           else
            some false
          else
           some false
         else
          some false
        else
         (impl_within k (a4, (0, 5000))).bind fun v9 =>
         if v9 = true then
          if (false == (decide (0 < a4))) = true then
           (impl_within k (a5, (0, 100))).bind fun v10 =>
           if v10 = true then
            (impl_within k (a6, (0, 1000000000000))).bind fun v11 =>
            some v11
           else
            some false
          else
           some false
         else
          some false
      else
       if a0 = 3 then
        if a0 = 1 then
         (impl_within k (a4, (0, 5000))).bind fun v12 =>
         if v12 = true then
          if (true == (decide (0 < a4))) = true then
           (impl_within k (a5, (0, 100))).bind fun v13 =>
           if v13 = true then
            (impl_within k (a6, (0, 1000000000000))).bind fun v14 =>
            some v14
           else
            some false
          else
           some false
         else
          some false
        else
         if a0 = 3 then
          (impl_within k (a4, (0, 5000))).bind fun v15 =>
          if v15 = true then
           if ((decide (a7 = 1)) == (decide (0 < a4))) = true then
            (impl_within k (a5, (0, 100))).bind fun v16 =>
            if v16 = true then
             (impl_within k (a6, (0, 1000000000000))).bind fun v17 =>
             some v17
            else
             some false
           else
            some false
          else
           some false
         else
          (impl_within k (a4, (0, 5000))).bind fun v18 =>
          if v18 = true then
           if (false == (decide (0 < a4))) = true then
            (impl_within k (a5, (0, 100))).bind fun v19 =>
            if v19 = true then
             (impl_within k (a6, (0, 1000000000000))).bind fun v20 =>
             some v20
            else
             some false
           else
            some false
          else
           some false
       else
        some false
     else
      some false
   else
    some false
  else
   some false
noncomputable def g_impl_PumpOk : (Int × Int × Int × Int × Int × Int × Int × Int) → Option (Bool) := impl_PumpOk_ (fun _ => g_impl_RateOk) (fun _ => g_impl_within) 0
theorem e_impl_PumpOk : ∀ x b, g_impl_PumpOk x = some b → ∃ k, impl_PumpOk_ (fun _ => g_impl_RateOk) (fun _ => g_impl_within) k x = some b := fun x b h => ⟨0, h⟩
/- impl_Wants -/
def con_impl_Wants (f : Nat → (Int × Int × Int × Int × Int × Int × Int × Int) → Option (Int)) : Con := ⟨[.agg [.int .i64, .int .i64, .int .i64, .int .i64, .int .i64, .int .i64, .int .i64, .int .i64]], 1, [.v false [.int .i64]], f⟩
def impl_Wants_ (impl_PumpOk : Nat → (Int × Int × Int × Int × Int × Int × Int × Int) → Option (Bool)) (impl_StepRate : Nat → (Int × Int × Int) → Option ((Int × Int × Int) × Int)) (k : Nat) : (Int × Int × Int × Int × Int × Int × Int × Int) → Option (Int)
  | (a0, a1, a2, a3, a4, a5, a6, a7) =>
  (impl_PumpOk k (a0, (a1, (a2, (a3, (a4, (a5, (a6, a7)))))))).bind fun v0 =>
  if v0 = true then
   if a0 = 1 then
    (impl_StepRate k (a1, (a2, a3))).bind fun v1 =>
    if a0 = 1 then
     some (wrap64 ((mn v1.2 a4) + (mn a5 3)))
    else
     some (wrap64 (v1.2 + (mn a5 3)))
   else
    if a0 = 2 then
     (impl_StepRate k (a1, (a2, a3))).bind fun v2 =>
     if a0 = 1 then
      some (wrap64 ((mn v2.2 a4) + (mn a5 3)))
     else
      some (wrap64 (v2.2 + (mn a5 3)))
    else
     some 0
  else
   some 0
noncomputable def g_impl_Wants : (Int × Int × Int × Int × Int × Int × Int × Int) → Option (Int) := impl_Wants_ (fun _ => g_impl_PumpOk) (fun _ => g_impl_StepRate) 0
theorem e_impl_Wants : ∀ x b, g_impl_Wants x = some b → ∃ k, impl_Wants_ (fun _ => g_impl_PumpOk) (fun _ => g_impl_StepRate) k x = some b := fun x b h => ⟨0, h⟩
/- impl_Give -/
def con_impl_Give (f : Nat → (Int × Int × Int × Int × Int × Int × Int × Int) × Int → Option ((Int × Int × Int × Int × Int × Int × Int × Int))) : Con := ⟨[.agg [.int .i64, .int .i64, .int .i64, .int .i64, .int .i64, .int .i64, .int .i64, .int .i64], .c (.int .i64)], 1, [.v true [.int .i64, .int .i64, .int .i64, .int .i64, .int .i64, .int .i64, .int .i64, .int .i64]], f⟩
def impl_Give_ (impl_PumpOk : Nat → (Int × Int × Int × Int × Int × Int × Int × Int) → Option (Bool)) (impl_StepRate : Nat → (Int × Int × Int) → Option ((Int × Int × Int) × Int)) (impl_Wants : Nat → (Int × Int × Int × Int × Int × Int × Int × Int) → Option (Int)) (k : Nat) : (Int × Int × Int × Int × Int × Int × Int × Int) × Int → Option ((Int × Int × Int × Int × Int × Int × Int × Int))
  | ((a0, a1, a2, a3, a4, a5, a6, a7), a8) =>
  (impl_PumpOk k (a0, (a1, (a2, (a3, (a4, (a5, (a6, a7)))))))).bind fun v0 =>
  if v0 = true then
   if a0 = 1 then
    (impl_Wants k (a0, (a1, (a2, (a3, (a4, (a5, (a6, a7)))))))).bind fun v1 =>
    (impl_StepRate k (a1, (a2, a3))).bind fun v2 =>
    if a0 = 2 then
     some (a0, (v2.1.1, (v2.1.2.1, (v2.1.2.2, (a4, ((wrap64 (a5 - (mn (mn (mn (mx a8 0) v1) a5) 3))), ((mn (wrap64 (a6 + (mn (mx a8 0) v1))) 1000000000000), a7)))))))
    else
     if (wrap64 (a4 - (wrap64 ((mn (mx a8 0) v1) - (mn (mn (mn (mx a8 0) v1) a5) 3))))) = 0 then
      some (2, (1, (50, (0, ((wrap64 (a4 - (wrap64 ((mn (mx a8 0) v1) - (mn (mn (mn (mx a8 0) v1) a5) 3))))), ((wrap64 (a5 - (mn (mn (mn (mx a8 0) v1) a5) 3))), ((mn (wrap64 (a6 + (mn (mx a8 0) v1))) 1000000000000), a7)))))))
     else
      some (a0, (v2.1.1, (v2.1.2.1, (v2.1.2.2, ((wrap64 (a4 - (wrap64 ((mn (mx a8 0) v1) - (mn (mn (mn (mx a8 0) v1) a5) 3))))), ((wrap64 (a5 - (mn (mn (mn (mx a8 0) v1) a5) 3))), ((mn (wrap64 (a6 + (mn (mx a8 0) v1))) 1000000000000), a7)))))))
   else
    if a0 = 2 then
     (impl_Wants k (a0, (a1, (a2, (a3, (a4, (a5, (a6, a7)))))))).bind fun v3 =>
     (impl_StepRate k (a1, (a2, a3))).bind fun v4 =>
     if a0 = 2 then
      some (a0, (v4.1.1, (v4.1.2.1, (v4.1.2.2, (a4, ((wrap64 (a5 - (mn (mn (mn (mx a8 0) v3) a5) 3))), ((mn (wrap64 (a6 + (mn (mx a8 0) v3))) 1000000000000), a7)))))))
     else
      if (wrap64 (a4 - (wrap64 ((mn (mx a8 0) v3) - (mn (mn (mn (mx a8 0) v3) a5) 3))))) = 0 then
       some (2, (1, (50, (0, ((wrap64 (a4 - (wrap64 ((mn (mx a8 0) v3) - (mn (mn (mn (mx a8 0) v3) a5) 3))))), ((wrap64 (a5 - (mn (mn (mn (mx a8 0) v3) a5) 3))), ((mn (wrap64 (a6 + (mn (mx a8 0) v3))) 1000000000000), a7)))))))
      else
       some (a0, (v4.1.1, (v4.1.2.1, (v4.1.2.2, ((wrap64 (a4 - (wrap64 ((mn (mx a8 0) v3) - (mn (mn (mn (mx a8 0) v3) a5) 3))))), ((wrap64 (a5 - (mn (mn (mn (mx a8 0) v3) a5) 3))), ((mn (wrap64 (a6 + (mn (mx a8 0) v3))) 1000000000000), a7)))))))
    else
     some (a0, (a1, (a2, (a3, (a4, (a5, (a6, a7)))))))
  else
   some (a0, (a1, (a2, (a3, (a4, (a5, (a6, a7)))))))
noncomputable def g_impl_Give : (Int × Int × Int × Int × Int × Int × Int × Int) × Int → Option ((Int × Int × Int × Int × Int × Int × Int × Int)) := impl_Give_ (fun _ => g_impl_PumpOk) (fun _ => g_impl_StepRate) (fun _ => g_impl_Wants) 0
theorem e_impl_Give : ∀ x b, g_impl_Give x = some b → ∃ k, impl_Give_ (fun _ => g_impl_PumpOk) (fun _ => g_impl_StepRate) (fun _ => g_impl_Wants) k x = some b := fun x b h => ⟨0, h⟩
/- impl_OrderOk -/
def con_impl_OrderOk (f : Nat → (Int × Int × Int × Int) → Option (Bool)) : Con := ⟨[.agg [.int .i64, .int .i64, .int .i64, .int .i64]], 1, [.v false [.bool]], f⟩
def impl_OrderOk_ (impl_within : Nat → Int × Int × Int → Option (Bool)) (k : Nat) : (Int × Int × Int × Int) → Option (Bool)
  | (a0, a1, a2, a3) =>
  if a0 = 1 then
   (impl_within k (a2, (1, 1000))).bind fun v0 =>
   if v0 = true then
    (impl_within k (a1, (1, (mn 1000 (wrap64 (3 * a2)))))).bind fun v1 =>
    if v1 = true then
     (impl_within k (a3, (1, 5000))).bind fun v2 =>
     some v2
    else
     some false
   else
    some false
  else
   if a0 = 2 then
    if a0 = 2 then
     if a1 = 0 then
      if a2 = 0 then
       if a3 = a3 then
        (impl_within k (a3, (1, 100))).bind fun v3 =>
        some v3
       else
        some false
      else
       some false
     else
      some false
    else
     some false
   else
    (impl_within k (a0, (3, 6))).bind fun v4 =>
    if v4 = true then
     some ((decide (a0 = a0)) && ((decide (a1 = 0)) && ((decide (a2 = 0)) && (decide (a3 = 0)))))
    else
     some false
noncomputable def g_impl_OrderOk : (Int × Int × Int × Int) → Option (Bool) := impl_OrderOk_ (fun _ => g_impl_within) 0
theorem e_impl_OrderOk : ∀ x b, g_impl_OrderOk x = some b → ∃ k, impl_OrderOk_ (fun _ => g_impl_within) k x = some b := fun x b h => ⟨0, h⟩
/- impl_Take -/
def con_impl_Take (f : Nat → (Int × Int × Int × Int × Int × Int × Int × Int) × (Int × Int × Int × Int) → Option ((Int × Int × Int × Int × Int × Int × Int × Int) × Bool)) : Con := ⟨[.agg [.int .i64, .int .i64, .int .i64, .int .i64, .int .i64, .int .i64, .int .i64, .int .i64], .agg [.int .i64, .int .i64, .int .i64, .int .i64]], 2, [.v true [.int .i64, .int .i64, .int .i64, .int .i64, .int .i64, .int .i64, .int .i64, .int .i64], .v false [.bool]], f⟩
def impl_Take_ (impl_OrderOk : Nat → (Int × Int × Int × Int) → Option (Bool)) (impl_PumpOk : Nat → (Int × Int × Int × Int × Int × Int × Int × Int) → Option (Bool)) (k : Nat) : (Int × Int × Int × Int × Int × Int × Int × Int) × (Int × Int × Int × Int) → Option ((Int × Int × Int × Int × Int × Int × Int × Int) × Bool)
  | ((a0, a1, a2, a3, a4, a5, a6, a7), (a8, a9, a10, a11)) =>
  (impl_PumpOk k (a0, (a1, (a2, (a3, (a4, (a5, (a6, a7)))))))).bind fun v0 =>
  if v0 = true then
   (impl_OrderOk k (a8, (a9, (a10, a11)))).bind fun v1 =>
   if v1 = true then
    if a8 = 1 then
     if a0 = 0 then
      some ((1, (a9, (a10, (0, (a11, (a5, (a6, a7))))))), true)
     else
      if a0 = 2 then
       some ((1, (a9, (a10, (0, (a11, (a5, (a6, a7))))))), true)
      else
       some ((a0, (a1, (a2, (a3, (a4, (a5, (a6, a7))))))), false)
    else
     if a8 = 2 then
      if a0 = 1 then
       if a5 = 0 then
        some ((a0, (a1, (a2, (a3, (a4, (a11, (a6, a7))))))), true)
       else
        some ((a0, (a1, (a2, (a3, (a4, (a5, (a6, a7))))))), false)
      else
       if a0 = 2 then
        if a5 = 0 then
         some ((a0, (a1, (a2, (a3, (a4, (a11, (a6, a7))))))), true)
        else
         some ((a0, (a1, (a2, (a3, (a4, (a5, (a6, a7))))))), false)
       else
        some ((a0, (a1, (a2, (a3, (a4, (a5, (a6, a7))))))), false)
     else
      if a8 = 3 then
       if a0 = 1 then
        some ((3, (a1, (a2, (a3, (a4, (a5, (a6, a0))))))), true)
       else
        if a0 = 2 then
         some ((3, (a1, (a2, (a3, (a4, (a5, (a6, a0))))))), true)
        else
         some ((a0, (a1, (a2, (a3, (a4, (a5, (a6, a7))))))), false)
      else
       if a8 = 4 then
        if a0 = 3 then
         some ((a7, (a1, (a2, (a3, (a4, (a5, (a6, 0))))))), true)
        else
         some ((a0, (a1, (a2, (a3, (a4, (a5, (a6, a7))))))), false)
       else
        if a8 = 6 then
         some ((0, (a1, (a2, (a3, (0, (0, (a6, 0))))))), true)
        else
         some ((a0, (a1, (a2, (a3, (a4, (a5, (a6, a7))))))), false)
   else
    some ((a0, (a1, (a2, (a3, (a4, (a5, (a6, a7))))))), false)
  else
   some ((a0, (a1, (a2, (a3, (a4, (a5, (a6, a7))))))), false)
noncomputable def g_impl_Take : (Int × Int × Int × Int × Int × Int × Int × Int) × (Int × Int × Int × Int) → Option ((Int × Int × Int × Int × Int × Int × Int × Int) × Bool) := impl_Take_ (fun _ => g_impl_OrderOk) (fun _ => g_impl_PumpOk) 0
theorem e_impl_Take : ∀ x b, g_impl_Take x = some b → ∃ k, impl_Take_ (fun _ => g_impl_OrderOk) (fun _ => g_impl_PumpOk) k x = some b := fun x b h => ⟨0, h⟩
/- impl_PumpNew -/
def con_impl_PumpNew (f : Nat → Unit → Option ((Int × Int × Int × Int × Int × Int × Int × Int))) : Con := ⟨[], 1, [.v true [.int .i64, .int .i64, .int .i64, .int .i64, .int .i64, .int .i64, .int .i64, .int .i64]], f⟩
def impl_PumpNew_ (k : Nat) : Unit → Option ((Int × Int × Int × Int × Int × Int × Int × Int))
  | () =>
  some (0, (0, (1, (0, (0, (0, (0, 0)))))))
noncomputable def g_impl_PumpNew : Unit → Option ((Int × Int × Int × Int × Int × Int × Int × Int)) := impl_PumpNew_  0
theorem e_impl_PumpNew : ∀ x b, g_impl_PumpNew x = some b → ∃ k, impl_PumpNew_  k x = some b := fun x b h => ⟨0, h⟩
/- spec_l01Byte -/
def con_spec_l01Byte (f : Nat → (List Int × Int × Int) → Option (Int × (Unit × Int × Int))) : Con := ⟨[.ptr [.sl (.int .u8), .int .i64, .int .i64] 114], 1, [.v false [.int .i64], .box [.keep, .int .i64, .int .i64] 114], f⟩
def spec_l01Byte_ (k : Nat) : (List Int × Int × Int) → Option (Int × (Unit × Int × Int))
  | (a0, a1, a2) =>
  if 0 ≤ 33 then
   if 0 ≤ 45 then
    if a1 < ((List.length a0 : Nat) : Int) then
     if 0 ≤ a1 then
      if a1 < ((List.length a0 : Nat) : Int) then some ((iand .i64 (wrap64 ((iand .i64 (ixor .i64 (Int.fdiv (wrap64 ((wrap64 (a2 * 6364136223846793005)) + 1442695040888963407)) (2 ^ (min (Int.toNat 33) (IntKind.bits .i64)))) (Int.fdiv (wrap64 ((wrap64 (a2 * 6364136223846793005)) + 1442695040888963407)) (2 ^ (min (Int.toNat 45) (IntKind.bits .i64))))) 255) + (wrap64 (List.getD a0 (Int.toNat a1) 0)))) 255), ((), ((wrap64 (a1 + 1)), (wrap64 ((wrap64 (a2 * 6364136223846793005)) + 1442695040888963407))))) else none
     else
      none
    else
     some ((iand .i64 (ixor .i64 (Int.fdiv (wrap64 ((wrap64 (a2 * 6364136223846793005)) + 1442695040888963407)) (2 ^ (min (Int.toNat 33) (IntKind.bits .i64)))) (Int.fdiv (wrap64 ((wrap64 (a2 * 6364136223846793005)) + 1442695040888963407)) (2 ^ (min (Int.toNat 45) (IntKind.bits .i64))))) 255), ((), (a1, (wrap64 ((wrap64 (a2 * 6364136223846793005)) + 1442695040888963407)))))
   else
    none
  else
   none
noncomputable def g_spec_l01Byte : (List Int × Int × Int) → Option (Int × (Unit × Int × Int)) := spec_l01Byte_  0
theorem e_spec_l01Byte : ∀ x b, g_spec_l01Byte x = some b → ∃ k, spec_l01Byte_  k x = some b := fun x b h => ⟨0, h⟩
/- spec_l01Below -/
def con_spec_l01Below (f : Nat → (List Int × Int × Int) × Int → Option (Int × (Unit × Int × Int))) : Con := ⟨[.ptr [.sl (.int .u8), .int .i64, .int .i64] 114, .c (.int .i64)], 1, [.v false [.int .i64], .box [.keep, .int .i64, .int .i64] 114], f⟩
def spec_l01Below_ (spec_l01Byte : Nat → (List Int × Int × Int) → Option (Int × (Unit × Int × Int))) (k : Nat) : (List Int × Int × Int) × Int → Option (Int × (Unit × Int × Int))
  | ((a0, a1, a2), a3) =>
  if a3 ≤ 0 then
   some (0, ((), (a1, a2)))
  else
   if a3 ≤ 256 then
    (spec_l01Byte k (a0, (a1, a2))).bind fun v0 =>
    if a3 = 0 then
     none
    else
     some ((Int.tmod v0.1 a3), ((), v0.2.2))
   else
    (spec_l01Byte k (a0, (a1, a2))).bind fun v1 =>
    (spec_l01Byte k (a0, v1.2.2)).bind fun v2 =>
    (spec_l01Byte k (a0, v2.2.2)).bind fun v3 =>
    (spec_l01Byte k (a0, v3.2.2)).bind fun v4 =>
    if a3 = 0 then
     none
    else
     some ((Int.tmod (wrap64 ((wrap64 ((wrap64 ((wrap64 (v1.1 * 16777216)) + (wrap64 (v2.1 * 65536)))) + (wrap64 (v3.1 * 256)))) + v4.1)) a3), ((), v4.2.2))
noncomputable def g_spec_l01Below : (List Int × Int × Int) × Int → Option (Int × (Unit × Int × Int)) := spec_l01Below_ (fun _ => g_spec_l01Byte) 0
theorem e_spec_l01Below : ∀ x b, g_spec_l01Below x = some b → ∃ k, spec_l01Below_ (fun _ => g_spec_l01Byte) k x = some b := fun x b h => ⟨0, h⟩
/- spec_l01New -/
def con_spec_l01New (f : Nat → List Int → Option ((Unit × Int × Int))) : Con := ⟨[.c (.sl (.int .u8))], 1, [.box [.al 0 0, .int .i64, .int .i64] 114], f⟩
def spec_l01New_L3 : Nat → Int × Int × List Int × Unit → Option ((Unit × Int × Int))
  | 0, _ => none
  | k + 1, (b0, b1, b2, ()) =>
    if b1 < ((List.length b2 : Nat) : Int) then
     if b1 < 4000 then
      if 0 ≤ b1 then
       if b1 < ((List.length b2 : Nat) : Int) then spec_l01New_L3 k ((iand .i64 (wrap64 ((wrap64 ((wrap64 (b0 * 131)) + (wrap64 (List.getD b2 (Int.toNat b1) 0)))) + 7)) 1073741823), (wrap64 (b1 + 1)), b2, ()) else none
      else
       none
     else
      some ((), (0, b0))
    else
     some ((), (0, b0))
def spec_l01New_ (k : Nat) : List Int → Option ((Unit × Int × Int))
  | a0 =>
  spec_l01New_L3 k ((wrap64 (37101 + ((List.length a0 : Nat) : Int))), 0, a0, ())
noncomputable def g_spec_l01New : List Int → Option ((Unit × Int × Int)) := evG (spec_l01New_ )
theorem e_spec_l01New : ∀ x b, g_spec_l01New x = some b → ∃ k, spec_l01New_  k x = some b := evG_e _
/- laws_big -/
def con_laws_big (f : Nat → List Int → Option (Bool)) : Con := ⟨[.c (.sl (.int .u8))], 1, [.v false [.bool]], f⟩
def laws_big_ (k : Nat) : List Int → Option (Bool)
  | a0 =>
  some (decide (1048576 < ((List.length a0 : Nat) : Int)))
noncomputable def g_laws_big : List Int → Option (Bool) := laws_big_  0
theorem e_laws_big : ∀ x b, g_laws_big x = some b → ∃ k, laws_big_  k x = some b := fun x b h => ⟨0, h⟩
/- spec_DrawPlaces -/
def con_spec_DrawPlaces (f : Nat → List Int → Option (List Int)) : Con := ⟨[.c (.sl (.int .u8))], 1, [.v false [.own (.int .i64) 3]], f⟩
def spec_DrawPlaces_L5 (spec_l01Below : Nat → (List Int × Int × Int) × Int → Option (Int × (Unit × Int × Int))) (spec_l01Byte : Nat → (List Int × Int × Int) → Option (Int × (Unit × Int × Int))) (spec_l01New : Nat → List Int → Option ((Unit × Int × Int))) : Nat → Int × List Int × Int × Int × List Int × Unit → Option (List Int)
  | 0, _ => none
  | k + 1, (b0, b1, b2, b3, b4, ()) =>
    if b0 < 12 then
     (spec_l01Below k ((b1, (b2, b3)), 10000)).bind fun v0 =>
     if (((List.length b4 + List.length [v0.1] : Nat) : Int) * ((8 : Nat) : Int)) ≤ 140737488355328 then spec_DrawPlaces_L5 spec_l01Below spec_l01Byte spec_l01New k ((wrap64 (b0 + 1)), b1, v0.2.2.1, v0.2.2.2, (b4 ++ [v0.1]), ()) else none
    else
     some b4
def spec_DrawPlaces_ (spec_l01Below : Nat → (List Int × Int × Int) × Int → Option (Int × (Unit × Int × Int))) (spec_l01Byte : Nat → (List Int × Int × Int) → Option (Int × (Unit × Int × Int))) (spec_l01New : Nat → List Int → Option ((Unit × Int × Int))) (k : Nat) : List Int → Option (List Int)
  | a0 =>
  (spec_l01New k a0).bind fun v0 =>
  (spec_l01Byte k (a0, v0.2)).bind fun v1 =>
  spec_DrawPlaces_L5 spec_l01Below spec_l01Byte spec_l01New k (0, a0, v1.2.2.1, v1.2.2.2, ([] : List Int), ())
noncomputable def g_spec_DrawPlaces : List Int → Option (List Int) := evG (spec_DrawPlaces_ (fun _ => g_spec_l01Below) (fun _ => g_spec_l01Byte) (fun _ => g_spec_l01New))
theorem e_spec_DrawPlaces : ∀ x b, g_spec_DrawPlaces x = some b → ∃ k, spec_DrawPlaces_ (fun _ => g_spec_l01Below) (fun _ => g_spec_l01Byte) (fun _ => g_spec_l01New) k x = some b := evG_e _
/- laws_FnVolumes -/
def con_laws_FnVolumes (f : Nat → List Int → Option (Bool)) : Con := ⟨[.c (.sl (.int .u8))], 1, [.v false [.bool]], f⟩
def laws_FnVolumes_L8 (impl_Give : Nat → (Int × Int × Int × Int × Int × Int × Int × Int) × Int → Option ((Int × Int × Int × Int × Int × Int × Int × Int))) (impl_PumpNew : Nat → Unit → Option ((Int × Int × Int × Int × Int × Int × Int × Int))) (impl_Take : Nat → (Int × Int × Int × Int × Int × Int × Int × Int) × (Int × Int × Int × Int) → Option ((Int × Int × Int × Int × Int × Int × Int × Int) × Bool)) (impl_Wants : Nat → (Int × Int × Int × Int × Int × Int × Int × Int) → Option (Int)) (laws_big : Nat → List Int → Option (Bool)) (spec_DrawPlaces : Nat → List Int → Option (List Int)) : Nat → Bool × Int × Int × Int × Int × Int × Int × Int × Int × Int × Int × Int × Int × Int × Unit → Option (Bool)
  | 0, _ => none
  | k + 1, (b0, b1, b2, b3, b4, b5, b6, b7, b8, b9, b10, b11, b12, b13, ()) =>
    if b6 = 1 then
     if b1 < 1000 then
      if b4 = 0 then
       none
      else
       if b5 < (wrap64 (Int.tdiv (wrap64 ((wrap64 (b1 + 1)) * b3)) b4)) then
        (impl_Wants k (b6, (b7, (b8, (b9, (b10, (b11, (b12, b13)))))))).bind fun v0 =>
        (impl_Give k ((b6, (b7, (b8, (b9, (b10, (b11, (b12, b13))))))), v0)).bind fun v1 =>
        if v1.2.2.2.2.2.2.1 = b5 then
         laws_FnVolumes_L8 impl_Give impl_PumpNew impl_Take impl_Wants laws_big spec_DrawPlaces k (b0, (wrap64 (b1 + 1)), b2, b3, b4, b5, v1.1, v1.2.1, v1.2.2.1, v1.2.2.2.1, v1.2.2.2.2.1, v1.2.2.2.2.2.1, v1.2.2.2.2.2.2.1, v1.2.2.2.2.2.2.2, ())
        else
         some false
       else
        (impl_Wants k (b6, (b7, (b8, (b9, (b10, (b11, (b12, b13)))))))).bind fun v2 =>
        (impl_Give k ((b6, (b7, (b8, (b9, (b10, (b11, (b12, b13))))))), v2)).bind fun v3 =>
        if v3.2.2.2.2.2.2.1 = (wrap64 (Int.tdiv (wrap64 ((wrap64 (b1 + 1)) * b3)) b4)) then
         laws_FnVolumes_L8 impl_Give impl_PumpNew impl_Take impl_Wants laws_big spec_DrawPlaces k (b0, (wrap64 (b1 + 1)), b2, b3, b4, b5, v3.1, v3.2.1, v3.2.2.1, v3.2.2.2.1, v3.2.2.2.2.1, v3.2.2.2.2.2.1, v3.2.2.2.2.2.2.1, v3.2.2.2.2.2.2.2, ())
        else
         some false
     else
      if b0 = true then
       if b6 = 2 then
        if b12 = b5 then
         if b10 = 0 then
          if (wrap64 ((wrap64 (b1 - 1)) * b3)) < (wrap64 (b5 * b4)) then
           if (wrap64 (b5 * b4)) ≤ (wrap64 (b1 * b3)) then
            if b8 = 50 then
             some (decide (b7 = 1))
            else
             some false
           else
            some false
          else
           some false
         else
          some false
        else
         some false
       else
        some false
      else
       some false
    else
     if b0 = true then
      if b6 = 2 then
       if b12 = b5 then
        if b10 = 0 then
         if (wrap64 ((wrap64 (b1 - 1)) * b3)) < (wrap64 (b5 * b4)) then
          if (wrap64 (b5 * b4)) ≤ (wrap64 (b1 * b3)) then
           if b8 = 50 then
            some (decide (b7 = 1))
           else
            some false
          else
           some false
         else
          some false
        else
         some false
       else
        some false
      else
       some false
     else
      some false
def laws_FnVolumes_ (impl_Give : Nat → (Int × Int × Int × Int × Int × Int × Int × Int) × Int → Option ((Int × Int × Int × Int × Int × Int × Int × Int))) (impl_PumpNew : Nat → Unit → Option ((Int × Int × Int × Int × Int × Int × Int × Int))) (impl_Take : Nat → (Int × Int × Int × Int × Int × Int × Int × Int) × (Int × Int × Int × Int) → Option ((Int × Int × Int × Int × Int × Int × Int × Int) × Bool)) (impl_Wants : Nat → (Int × Int × Int × Int × Int × Int × Int × Int) → Option (Int)) (laws_big : Nat → List Int → Option (Bool)) (spec_DrawPlaces : Nat → List Int → Option (List Int)) (k : Nat) : List Int → Option (Bool)
  | a0 =>
  (laws_big k a0).bind fun v0 =>
  if v0 = true then
   some true
  else
   (spec_DrawPlaces k a0).bind fun v1 =>
   if 0 ≤ 0 then
    if 0 < ((List.length v1 : Nat) : Int) then
     if 9 = 0 then
      none
     else
      if 0 ≤ 2 then
       if 2 < ((List.length v1 : Nat) : Int) then
        if 60 = 0 then
         none
        else
         if 0 ≤ 1 then
          if 1 < ((List.length v1 : Nat) : Int) then
           if (wrap64 (3 * (wrap64 (1 + (Int.tmod (List.getD v1 (Int.toNat 0) 0) 9))))) = 0 then
            none
           else
            (impl_PumpNew k ()).bind fun v2 =>
            (impl_Take k (v2, (1, ((wrap64 (1 + (Int.tmod (List.getD v1 (Int.toNat 1) 0) (wrap64 (3 * (wrap64 (1 + (Int.tmod (List.getD v1 (Int.toNat 0) 0) 9)))))))), ((wrap64 (1 + (Int.tmod (List.getD v1 (Int.toNat 0) 0) 9))), (wrap64 (1 + (Int.tmod (List.getD v1 (Int.toNat 2) 0) 60)))))))).bind fun v3 =>
            laws_FnVolumes_L8 impl_Give impl_PumpNew impl_Take impl_Wants laws_big spec_DrawPlaces k (v3.2, 0, 1, (wrap64 (1 + (Int.tmod (List.getD v1 (Int.toNat 1) 0) (wrap64 (3 * (wrap64 (1 + (Int.tmod (List.getD v1 (Int.toNat 0) 0) 9)))))))), (wrap64 (1 + (Int.tmod (List.getD v1 (Int.toNat 0) 0) 9))), (wrap64 (1 + (Int.tmod (List.getD v1 (Int.toNat 2) 0) 60))), v3.1.1, v3.1.2.1, v3.1.2.2.1, v3.1.2.2.2.1, v3.1.2.2.2.2.1, v3.1.2.2.2.2.2.1, v3.1.2.2.2.2.2.2.1, v3.1.2.2.2.2.2.2.2, ())
          else
           none
         else
          none
       else
        none
      else
       none
    else
     none
   else
    none
noncomputable def g_laws_FnVolumes : List Int → Option (Bool) := evG (laws_FnVolumes_ (fun _ => g_impl_Give) (fun _ => g_impl_PumpNew) (fun _ => g_impl_Take) (fun _ => g_impl_Wants) (fun _ => g_laws_big) (fun _ => g_spec_DrawPlaces))
theorem e_laws_FnVolumes : ∀ x b, g_laws_FnVolumes x = some b → ∃ k, laws_FnVolumes_ (fun _ => g_impl_Give) (fun _ => g_impl_PumpNew) (fun _ => g_impl_Take) (fun _ => g_impl_Wants) (fun _ => g_laws_big) (fun _ => g_spec_DrawPlaces) k x = some b := evG_e _
end Go.Sx.T
