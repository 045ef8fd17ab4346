/- Functions of the program as functions of Lean, and that the program keeps to them. -/
import Derived.Test.YtklcjpidbpplkaaSxP1
set_option maxRecDepth 100000
set_option linter.unusedVariables false
set_option linter.unusedSimpArgs false
namespace Go.Proofs
end Go.Proofs
namespace Go.Sx.T
open Go Go.Sx Go.Proofs Go.RowKit
/- impl_within -/
def con_impl_within (f : Nat → Int × Int × Int → Option (Bool)) : Con := ⟨[.c (.int .i64), .c (.int .i64), .c (.int .i64)], 1, [.v false [.bool]], f⟩
def impl_within_ (k : Nat) : Int × Int × Int → Option (Bool)
  | (a0, a1, a2) =>
  if a1 ≤ a0 then
   some (decide (a0 ≤ a2))
  else
   some false
noncomputable def g_impl_within : Int × Int × Int → Option (Bool) := impl_within_  0
theorem e_impl_within : ∀ x b, g_impl_within x = some b → ∃ k, impl_within_  k x = some b := fun x b h => ⟨0, h⟩
/- impl_RateOk -/
def con_impl_RateOk (f : Nat → (Int × Int × Int) → Option (Bool)) : Con := ⟨[.agg [.int .i64, .int .i64, .int .i64]], 1, [.v false [.bool]], f⟩
def impl_RateOk_ (impl_within : Nat → Int × Int × Int → Option (Bool)) (k : Nat) : (Int × Int × Int) → Option (Bool)
  | (a0, a1, a2) =>
  (impl_within k (a0, (0, 1000000))).bind fun v0 =>
  if v0 = true then
   (impl_within k (a1, (1, 1000000))).bind fun v1 =>
   if v1 = true then
    (impl_within k (a2, (0, (wrap64 (a1 - 1))))).bind fun v2 =>
    some v2
   else
    some false
  else
   some false
noncomputable def g_impl_RateOk : (Int × Int × Int) → Option (Bool) := impl_RateOk_ (fun _ => g_impl_within) 0
theorem e_impl_RateOk : ∀ x b, g_impl_RateOk x = some b → ∃ k, impl_RateOk_ (fun _ => g_impl_within) k x = some b := fun x b h => ⟨0, h⟩
/- impl_StepRate -/
def con_impl_StepRate (f : Nat → (Int × Int × Int) → Option ((Int × Int × Int) × Int)) : Con := ⟨[.agg [.int .i64, .int .i64, .int .i64]], 2, [.v true [.int .i64, .int .i64, .int .i64], .v false [.int .i64]], f⟩
def impl_StepRate_ (impl_RateOk : Nat → (Int × Int × Int) → Option (Bool)) (k : Nat) : (Int × Int × Int) → Option ((Int × Int × Int) × Int)
  | (a0, a1, a2) =>
  (impl_RateOk k (a0, (a1, a2))).bind fun v0 =>
  if v0 = true then
   if a1 = 0 then
    none
   else
    if a1 = 0 then
     none
    else
     some ((a0, (a1, (Int.tmod (wrap64 (a2 + a0)) a1))), (wrap64 (Int.tdiv (wrap64 (a2 + a0)) a1)))
  else
   some ((a0, (a1, a2)), 0)
noncomputable def g_impl_StepRate : (Int × Int × Int) → Option ((Int × Int × Int) × Int) := impl_StepRate_ (fun _ => g_impl_RateOk) 0
theorem e_impl_StepRate : ∀ x b, g_impl_StepRate x = some b → ∃ k, impl_StepRate_ (fun _ => g_impl_RateOk) k x = some b := fun x b h => ⟨0, h⟩
/- impl_PumpOk -/
def con_impl_PumpOk (f : Nat → (Int × Int × Int × Int × Int × Int × Int × Int) → Option (Bool)) : Con := ⟨[.agg [.int .i64, .int .i64, .int .i64, .int .i64, .int .i64, .int .i64, .int .i64, .int .i64]], 1, [.v false [.bool]], f⟩
def impl_PumpOk_ (impl_RateOk : Nat → (Int × Int × Int) → Option (Bool)) (impl_within : Nat → Int × Int × Int → Option (Bool)) (k : Nat) : (Int × Int × Int × Int × Int × Int × Int × Int) → Option (Bool)
  | (a0, a1, a2, a3, a4, a5, a6, a7) =>
  (impl_within k (a0, (0, 3))).bind fun v0 =>
  if v0 = true then
   (impl_RateOk k (a1, (a2, a3))).bind fun v1 =>
   if v1 = true then
    if (wrap64 (3 * a2)) < a1 then
     some false
    else
     (impl_within k (a7, (0, 2))).bind fun v2 =>
     if v2 = true then
      if a7 = 0 then
       if a0 = 1 then
        (impl_within k (a4, (0, 5000))).bind fun v3 =>
        if v3 = true then
         if (true == (decide (0 < a4))) = true then
          (impl_within k (a5, (0, 100))).bind fun v4 =>
          if v4 = true then
           (impl_within k (a6, (0, 1000000000000))).bind fun v5 =>
           some v5
          else
           some false
         else
          some false
        else
         some false
       else
        if a0 = 3 then
         (impl_within k (a4, (0, 5000))).bind fun v6 =>
         if v6 = true then
          if ((decide (a7 = 1)) == (decide (0 < a4))) = true then
           (impl_within k (a5, (0, 100))).bind fun v7 =>
           if v7 = true then
            (impl_within k (a6, (0, 1000000000000))).bind fun v8 =>
            some v8
           else
            some false
          else
           some false
         else
          some false
        else
         (impl_within k (a4, (0, 5000))).bind fun v9 =>
         if v9 = true then
          if (false == (decide (0 < a4))) = true then
           (impl_within k (a5, (0, 100))).bind fun v10 =>
           if v10 = true then
            (impl_within k (a6, (0, 1000000000000))).bind fun v11 =>
            some v11
           else
            some false
          else
           some false
         else
          some false
      else
       if a0 = 3 then
        if a0 = 1 then
         (impl_within k (a4, (0, 5000))).bind fun v12 =>
         if v12 = true then
          if (true == (decide (0 < a4))) = true then
           (impl_within k (a5, (0, 100))).bind fun v13 =>
           if v13 = true then
            (impl_within k (a6, (0, 1000000000000))).bind fun v14 =>
            some v14
           else
            some false
          else
           some false
         else
          some false
        else
         if a0 = 3 then
          (impl_within k (a4, (0, 5000))).bind fun v15 =>
          if v15 = true then
           if ((decide (a7 = 1)) == (decide (0 < a4))) = true then
            (impl_within k (a5, (0, 100))).bind fun v16 =>
            if v16 = true then
             (impl_within k (a6, (0, 1000000000000))).bind fun v17 =>
             some v17
            else
             some false
           else
            some false
          else
           some false
         else
          (impl_within k (a4, (0, 5000))).bind fun v18 =>
          if v18 = true then
           if (false == (decide (0 < a4))) = true then
            (impl_within k (a5, (0, 100))).bind fun v19 =>
            if v19 = true then
             (impl_within k (a6, (0, 1000000000000))).bind fun v20 =>
             some v20
            else
             some false
           else
            some false
          else
           some false
       else
        some false
     else
      some false
   else
    some false
  else
   some false
noncomputable def g_impl_PumpOk : (Int × Int × Int × Int × Int × Int × Int × Int) → Option (Bool) := impl_PumpOk_ (fun _ => g_impl_RateOk) (fun _ => g_impl_within) 0
theorem e_impl_PumpOk : ∀ x b, g_impl_PumpOk x = some b → ∃ k, impl_PumpOk_ (fun _ => g_impl_RateOk) (fun _ => g_impl_within) k x = some b := fun x b h => ⟨0, h⟩
/- impl_Wants -/
def con_impl_Wants (f : Nat → (Int × Int × Int × Int × Int × Int × Int × Int) → Option (Int)) : Con := ⟨[.agg [.int .i64, .int .i64, .int .i64, .int .i64, .int .i64, .int .i64, .int .i64, .int .i64]], 1, [.v false [.int .i64]], f⟩
def impl_Wants_ (impl_PumpOk : Nat → (Int × Int × Int × Int × Int × Int × Int × Int) → Option (Bool)) (impl_StepRate : Nat → (Int × Int × Int) → Option ((Int × Int × Int) × Int)) (k : Nat) : (Int × Int × Int × Int × Int × Int × Int × Int) → Option (Int)
  | (a0, a1, a2, a3, a4, a5, a6, a7) =>
  (impl_PumpOk k (a0, (a1, (a2, (a3, (a4, (a5, (a6, a7)))))))).bind fun v0 =>
  if v0 = true then
   if a0 = 1 then
    (impl_StepRate k (a1, (a2, a3))).bind fun v1 =>
    if a0 = 1 then
     some (wrap64 ((mn v1.2 a4) + (mn a5 3)))
    else
     some (wrap64 (v1.2 + (mn a5 3)))
   else
    if a0 = 2 then
     (impl_StepRate k (a1, (a2, a3))).bind fun v2 =>
     if a0 = 1 then
      some (wrap64 ((mn v2.2 a4) + (mn a5 3)))
     else
      some (wrap64 (v2.2 + (mn a5 3)))
    else
     some 0
  else
   some 0
noncomputable def g_impl_Wants : (Int × Int × Int × Int × Int × Int × Int × Int) → Option (Int) := impl_Wants_ (fun _ => g_impl_PumpOk) (fun _ => g_impl_StepRate) 0
theorem e_impl_Wants : ∀ x b, g_impl_Wants x = some b → ∃ k, impl_Wants_ (fun _ => g_impl_PumpOk) (fun _ => g_impl_StepRate) k x = some b := fun x b h => ⟨0, h⟩
/- impl_Give -/
def con_impl_Give (f : Nat → (Int × Int × Int × Int × Int × Int × Int × Int) × Int → Option ((Int × Int × Int × Int × Int × Int × Int × Int))) : Con := ⟨[.agg [.int .i64, .int .i64, .int .i64, .int .i64, .int .i64, .int .i64, .int .i64, .int .i64], .c (.int .i64)], 1, [.v true [.int .i64, .int .i64, .int .i64, .int .i64, .int .i64, .int .i64, .int .i64, .int .i64]], f⟩
def impl_Give_ (impl_PumpOk : Nat → (Int × Int × Int × Int × Int × Int × Int × Int) → Option (Bool)) (impl_StepRate : Nat → (Int × Int × Int) → Option ((Int × Int × Int) × Int)) (impl_Wants : Nat → (Int × Int × Int × Int × Int × Int × Int × Int) → Option (Int)) (k : Nat) : (Int × Int × Int × Int × Int × Int × Int × Int) × Int → Option ((Int × Int × Int × Int × Int × Int × Int × Int))
  | ((a0, a1, a2, a3, a4, a5, a6, a7), a8) =>
  (impl_PumpOk k (a0, (a1, (a2, (a3, (a4, (a5, (a6, a7)))))))).bind fun v0 =>
  if v0 = true then
   if a0 = 1 then
    (impl_Wants k (a0, (a1, (a2, (a3, (a4, (a5, (a6, a7)))))))).bind fun v1 =>
    (impl_StepRate k (a1, (a2, a3))).bind fun v2 =>
    if a0 = 2 then
     some (a0, (v2.1.1, (v2.1.2.1, (v2.1.2.2, (a4, ((wrap64 (a5 - (mn (mn (mn (mx a8 0) v1) a5) 3))), ((mn (wrap64 (a6 + (mn (mx a8 0) v1))) 1000000000000), a7)))))))
    else
     if (wrap64 (a4 - (wrap64 ((mn (mx a8 0) v1) - (mn (mn (mn (mx a8 0) v1) a5) 3))))) = 0 then
      some (2, (1, (50, (0, ((wrap64 (a4 - (wrap64 ((mn (mx a8 0) v1) - (mn (mn (mn (mx a8 0) v1) a5) 3))))), ((wrap64 (a5 - (mn (mn (mn (mx a8 0) v1) a5) 3))), ((mn (wrap64 (a6 + (mn (mx a8 0) v1))) 1000000000000), a7)))))))
     else
      some (a0, (v2.1.1, (v2.1.2.1, (v2.1.2.2, ((wrap64 (a4 - (wrap64 ((mn (mx a8 0) v1) - (mn (mn (mn (mx a8 0) v1) a5) 3))))), ((wrap64 (a5 - (mn (mn (mn (mx a8 0) v1) a5) 3))), ((mn (wrap64 (a6 + (mn (mx a8 0) v1))) 1000000000000), a7)))))))
   else
    if a0 = 2 then
     (impl_Wants k (a0, (a1, (a2, (a3, (a4, (a5, (a6, a7)))))))).bind fun v3 =>
     (impl_StepRate k (a1, (a2, a3))).bind fun v4 =>
     if a0 = 2 then
      some (a0, (v4.1.1, (v4.1.2.1, (v4.1.2.2, (a4, ((wrap64 (a5 - (mn (mn (mn (mx a8 0) v3) a5) 3))), ((mn (wrap64 (a6 + (mn (mx a8 0) v3))) 1000000000000), a7)))))))
     else
      if (wrap64 (a4 - (wrap64 ((mn (mx a8 0) v3) - (mn (mn (mn (mx a8 0) v3) a5) 3))))) = 0 then
       some (2, (1, (50, (0, ((wrap64 (a4 - (wrap64 ((mn (mx a8 0) v3) - (mn (mn (mn (mx a8 0) v3) a5) 3))))), ((wrap64 (a5 - (mn (mn (mn (mx a8 0) v3) a5) 3))), ((mn (wrap64 (a6 + (mn (mx a8 0) v3))) 1000000000000), a7)))))))
      else
       some (a0, (v4.1.1, (v4.1.2.1, (v4.1.2.2, ((wrap64 (a4 - (wrap64 ((mn (mx a8 0) v3) - (mn (mn (mn (mx a8 0) v3) a5) 3))))), ((wrap64 (a5 - (mn (mn (mn (mx a8 0) v3) a5) 3))), ((mn (wrap64 (a6 + (mn (mx a8 0) v3))) 1000000000000), a7)))))))
    else
     some (a0, (a1, (a2, (a3, (a4, (a5, (a6, a7)))))))
  else
   some (a0, (a1, (a2, (a3, (a4, (a5, (a6, a7)))))))
noncomputable def g_impl_Give : (Int × Int × Int × Int × Int × Int × Int × Int) × Int → Option ((Int × Int × Int × Int × Int × Int × Int × Int)) := impl_Give_ (fun _ => g_impl_PumpOk) (fun _ => g_impl_StepRate) (fun _ => g_impl_Wants) 0
theorem e_impl_Give : ∀ x b, g_impl_Give x = some b → ∃ k, impl_Give_ (fun _ => g_impl_PumpOk) (fun _ => g_impl_StepRate) (fun _ => g_impl_Wants) k x = some b := fun x b h => ⟨0, h⟩
/- spec_l01In -/
def con_spec_l01In (f : Nat → Int × Int × Int → Option (Bool)) : Con := ⟨[.c (.int .i64), .c (.int .i64), .c (.int .i64)], 1, [.v false [.bool]], f⟩
def spec_l01In_ (k : Nat) : Int × Int × Int → Option (Bool)
  | (a0, a1, a2) =>
  if a1 ≤ a0 then
   some (decide (a0 ≤ a2))
  else
   some false
noncomputable def g_spec_l01In : Int × Int × Int → Option (Bool) := spec_l01In_  0
theorem e_spec_l01In : ∀ x b, g_spec_l01In x = some b → ∃ k, spec_l01In_  k x = some b := fun x b h => ⟨0, h⟩
/- spec_l15Less -/
def con_spec_l15Less (f : Nat → Int × Int → Option (Int)) : Con := ⟨[.c (.int .i64), .c (.int .i64)], 1, [.v false [.int .i64]], f⟩
def spec_l15Less_ (k : Nat) : Int × Int → Option (Int)
  | (a0, a1) =>
  if a0 < a1 then
   some a0
  else
   some a1
noncomputable def g_spec_l15Less : Int × Int → Option (Int) := spec_l15Less_  0
theorem e_spec_l15Less : ∀ x b, g_spec_l15Less x = some b → ∃ k, spec_l15Less_  k x = some b := fun x b h => ⟨0, h⟩
/- laws_eqRate -/
def con_laws_eqRate (f : Nat → (Int × Int × Int) × (Int × Int × Int) → Option (Bool)) : Con := ⟨[.agg [.int .i64, .int .i64, .int .i64], .agg [.int .i64, .int .i64, .int .i64]], 1, [.v false [.bool]], f⟩
def laws_eqRate_ (k : Nat) : (Int × Int × Int) × (Int × Int × Int) → Option (Bool)
  | ((a0, a1, a2), (a3, a4, a5)) =>
  if a0 = a3 then
   if a1 = a4 then
    if a2 = a5 then
     some true
    else
     some false
   else
    some false
  else
   some false
noncomputable def g_laws_eqRate : (Int × Int × Int) × (Int × Int × Int) → Option (Bool) := laws_eqRate_  0
theorem e_laws_eqRate : ∀ x b, g_laws_eqRate x = some b → ∃ k, laws_eqRate_  k x = some b := fun x b h => ⟨0, h⟩
/- laws_eqPump -/
def con_laws_eqPump (f : Nat → (Int × Int × Int × Int × Int × Int × Int × Int) × (Int × Int × Int × Int × Int × Int × Int × Int) → Option (Bool)) : Con := ⟨[.agg [.int .i64, .int .i64, .int .i64, .int .i64, .int .i64, .int .i64, .int .i64, .int .i64], .agg [.int .i64, .int .i64, .int .i64, .int .i64, .int .i64, .int .i64, .int .i64, .int .i64]], 1, [.v false [.bool]], f⟩
def laws_eqPump_ (laws_eqRate : Nat → (Int × Int × Int) × (Int × Int × Int) → Option (Bool)) (k : Nat) : (Int × Int × Int × Int × Int × Int × Int × Int) × (Int × Int × Int × Int × Int × Int × Int × Int) → Option (Bool)
  | ((a0, a1, a2, a3, a4, a5, a6, a7), (a8, a9, a10, a11, a12, a13, a14, a15)) =>
  if a0 = a8 then
   (laws_eqRate k ((a1, (a2, a3)), (a9, (a10, a11)))).bind fun v0 =>
   if v0 = true then
    if a4 = a12 then
     if a5 = a13 then
      if a6 = a14 then
       if a7 = a15 then
        some true
       else
        some false
      else
       some false
     else
      some false
    else
     some false
   else
    some false
  else
   some false
noncomputable def g_laws_eqPump : (Int × Int × Int × Int × Int × Int × Int × Int) × (Int × Int × Int × Int × Int × Int × Int × Int) → Option (Bool) := laws_eqPump_ (fun _ => g_laws_eqRate) 0
theorem e_laws_eqPump : ∀ x b, g_laws_eqPump x = some b → ∃ k, laws_eqPump_ (fun _ => g_laws_eqRate) k x = some b := fun x b h => ⟨0, h⟩
/- laws_toRate -/
def con_laws_toRate (f : Nat → (Int × Int × Int) → Option ((Int × Int × Int))) : Con := ⟨[.agg [.int .i64, .int .i64, .int .i64]], 1, [.v true [.int .i64, .int .i64, .int .i64]], f⟩
def laws_toRate_ (k : Nat) : (Int × Int × Int) → Option ((Int × Int × Int))
  | (a0, a1, a2) =>
  some (a0, (a1, a2))
noncomputable def g_laws_toRate : (Int × Int × Int) → Option ((Int × Int × Int)) := laws_toRate_  0
theorem e_laws_toRate : ∀ x b, g_laws_toRate x = some b → ∃ k, laws_toRate_  k x = some b := fun x b h => ⟨0, h⟩
/- laws_toPump -/
def con_laws_toPump (f : Nat → (Int × Int × Int × Int × Int × Int × Int × Int) → Option ((Int × Int × Int × Int × Int × Int × Int × Int))) : Con := ⟨[.agg [.int .i64, .int .i64, .int .i64, .int .i64, .int .i64, .int .i64, .int .i64, .int .i64]], 1, [.v true [.int .i64, .int .i64, .int .i64, .int .i64, .int .i64, .int .i64, .int .i64, .int .i64]], f⟩
def laws_toPump_ (laws_toRate : Nat → (Int × Int × Int) → Option ((Int × Int × Int))) (k : Nat) : (Int × Int × Int × Int × Int × Int × Int × Int) → Option ((Int × Int × Int × Int × Int × Int × Int × Int))
  | (a0, a1, a2, a3, a4, a5, a6, a7) =>
  (laws_toRate k (a1, (a2, a3))).bind fun v0 =>
  some (a0, (v0.1, (v0.2.1, (v0.2.2, (a4, (a5, (a6, a7)))))))
noncomputable def g_laws_toPump : (Int × Int × Int × Int × Int × Int × Int × Int) → Option ((Int × Int × Int × Int × Int × Int × Int × Int)) := laws_toPump_ (fun _ => g_laws_toRate) 0
theorem e_laws_toPump : ∀ x b, g_laws_toPump x = some b → ∃ k, laws_toPump_ (fun _ => g_laws_toRate) k x = some b := fun x b h => ⟨0, h⟩
/- spec_RateOk -/
def con_spec_RateOk (f : Nat → (Int × Int × Int) → Option (Bool)) : Con := ⟨[.agg [.int .i64, .int .i64, .int .i64]], 1, [.v false [.bool]], f⟩
def spec_RateOk_ (spec_l01In : Nat → Int × Int × Int → Option (Bool)) (k : Nat) : (Int × Int × Int) → Option (Bool)
  | (a0, a1, a2) =>
  (spec_l01In k (a0, (0, 1000000))).bind fun v0 =>
  if v0 = true then
   (spec_l01In k (a1, (1, 1000000))).bind fun v1 =>
   if v1 = true then
    (spec_l01In k (a2, (0, (wrap64 (a1 - 1))))).bind fun v2 =>
    some v2
   else
    some false
  else
   some false
noncomputable def g_spec_RateOk : (Int × Int × Int) → Option (Bool) := spec_RateOk_ (fun _ => g_spec_l01In) 0
theorem e_spec_RateOk : ∀ x b, g_spec_RateOk x = some b → ∃ k, spec_RateOk_ (fun _ => g_spec_l01In) k x = some b := fun x b h => ⟨0, h⟩
/- spec_StepRate -/
def con_spec_StepRate (f : Nat → (Int × Int × Int) → Option ((Int × Int × Int) × Int)) : Con := ⟨[.agg [.int .i64, .int .i64, .int .i64]], 2, [.v true [.int .i64, .int .i64, .int .i64], .v false [.int .i64]], f⟩
def spec_StepRate_ (spec_RateOk : Nat → (Int × Int × Int) → Option (Bool)) (k : Nat) : (Int × Int × Int) → Option ((Int × Int × Int) × Int)
  | (a0, a1, a2) =>
  (spec_RateOk k (a0, (a1, a2))).bind fun v0 =>
  if v0 = true then
   if a1 = 0 then
    none
   else
    if a1 = 0 then
     none
    else
     some ((a0, (a1, (Int.tmod (wrap64 (a2 + a0)) a1))), (wrap64 (Int.tdiv (wrap64 (a2 + a0)) a1)))
  else
   some ((a0, (a1, a2)), 0)
noncomputable def g_spec_StepRate : (Int × Int × Int) → Option ((Int × Int × Int) × Int) := spec_StepRate_ (fun _ => g_spec_RateOk) 0
theorem e_spec_StepRate : ∀ x b, g_spec_StepRate x = some b → ∃ k, spec_StepRate_ (fun _ => g_spec_RateOk) k x = some b := fun x b h => ⟨0, h⟩
/- spec_PumpOk -/
def con_spec_PumpOk (f : Nat → (Int × Int × Int × Int × Int × Int × Int × Int) → Option (Bool)) : Con := ⟨[.agg [.int .i64, .int .i64, .int .i64, .int .i64, .int .i64, .int .i64, .int .i64, .int .i64]], 1, [.v false [.bool]], f⟩
def spec_PumpOk_ (spec_RateOk : Nat → (Int × Int × Int) → Option (Bool)) (spec_l01In : Nat → Int × Int × Int → Option (Bool)) (k : Nat) : (Int × Int × Int × Int × Int × Int × Int × Int) → Option (Bool)
  | (a0, a1, a2, a3, a4, a5, a6, a7) =>
  if a0 = 1 then
   (spec_l01In k (a0, (0, 3))).bind fun v0 =>
   if v0 = true then
    (spec_RateOk k (a1, (a2, a3))).bind fun v1 =>
    if v1 = true then
     if (wrap64 (3 * a2)) < a1 then
      some false
     else
      (spec_l01In k (a4, (0, 5000))).bind fun v2 =>
      if v2 = true then
       if ((decide (0 < a4)) == true) = true then
        (spec_l01In k (a5, (0, 100))).bind fun v3 =>
        if v3 = true then
         (spec_l01In k (a6, (0, 1000000000000))).bind fun v4 =>
         if v4 = true then
          (spec_l01In k (a7, (0, 2))).bind fun v5 =>
          if v5 = true then
           if a0 = 3 then
            some true
           else
            some (decide (a7 = 0))
          else
           some false
         else
          some false
        else
         some false
       else
        some false
      else
       some false
    else
     some false
   else
    some false
  else
   if a0 = 3 then
    (spec_l01In k (a0, (0, 3))).bind fun v6 =>
    if v6 = true then
     (spec_RateOk k (a1, (a2, a3))).bind fun v7 =>
     if v7 = true then
      if (wrap64 (3 * a2)) < a1 then
       some false
      else
       (spec_l01In k (a4, (0, 5000))).bind fun v8 =>
       if v8 = true then
        if ((decide (0 < a4)) == (decide (a7 = 1))) = true then
         (spec_l01In k (a5, (0, 100))).bind fun v9 =>
         if v9 = true then
          (spec_l01In k (a6, (0, 1000000000000))).bind fun v10 =>
          if v10 = true then
           (spec_l01In k (a7, (0, 2))).bind fun v11 =>
           if v11 = true then
            if a0 = 3 then
             some true
            else
             some (decide (a7 = 0))
           else
            some false
          else
           some false
         else
          some false
        else
         some false
       else
        some false
     else
      some false
    else
     some false
   else
    (spec_l01In k (a0, (0, 3))).bind fun v12 =>
    if v12 = true then
     (spec_RateOk k (a1, (a2, a3))).bind fun v13 =>
     if v13 = true then
      if (wrap64 (3 * a2)) < a1 then
       some false
      else
       (spec_l01In k (a4, (0, 5000))).bind fun v14 =>
       if v14 = true then
        if ((decide (0 < a4)) == false) = true then
         (spec_l01In k (a5, (0, 100))).bind fun v15 =>
         if v15 = true then
          (spec_l01In k (a6, (0, 1000000000000))).bind fun v16 =>
          if v16 = true then
           (spec_l01In k (a7, (0, 2))).bind fun v17 =>
           if v17 = true then
            if a0 = 3 then
             some true
            else
             some (decide (a7 = 0))
           else
            some false
          else
           some false
         else
          some false
        else
         some false
       else
        some false
     else
      some false
    else
     some false
noncomputable def g_spec_PumpOk : (Int × Int × Int × Int × Int × Int × Int × Int) → Option (Bool) := spec_PumpOk_ (fun _ => g_spec_RateOk) (fun _ => g_spec_l01In) 0
theorem e_spec_PumpOk : ∀ x b, g_spec_PumpOk x = some b → ∃ k, spec_PumpOk_ (fun _ => g_spec_RateOk) (fun _ => g_spec_l01In) k x = some b := fun x b h => ⟨0, h⟩
/- spec_Wants -/
def con_spec_Wants (f : Nat → (Int × Int × Int × Int × Int × Int × Int × Int) → Option (Int)) : Con := ⟨[.agg [.int .i64, .int .i64, .int .i64, .int .i64, .int .i64, .int .i64, .int .i64, .int .i64]], 1, [.v false [.int .i64]], f⟩
def spec_Wants_ (spec_PumpOk : Nat → (Int × Int × Int × Int × Int × Int × Int × Int) → Option (Bool)) (spec_StepRate : Nat → (Int × Int × Int) → Option ((Int × Int × Int) × Int)) (spec_l15Less : Nat → Int × Int → Option (Int)) (k : Nat) : (Int × Int × Int × Int × Int × Int × Int × Int) → Option (Int)
  | (a0, a1, a2, a3, a4, a5, a6, a7) =>
  (spec_PumpOk k (a0, (a1, (a2, (a3, (a4, (a5, (a6, a7)))))))).bind fun v0 =>
  if v0 = true then
   if a0 = 1 then
    (spec_StepRate k (a1, (a2, a3))).bind fun v1 =>
    if a0 = 1 then
     (spec_l15Less k (v1.2, a4)).bind fun v2 =>
     (spec_l15Less k (a5, 3)).bind fun v3 =>
     some (wrap64 (v2 + v3))
    else
     (spec_l15Less k (a5, 3)).bind fun v4 =>
     some (wrap64 (v1.2 + v4))
   else
    if a0 = 2 then
     (spec_StepRate k (a1, (a2, a3))).bind fun v5 =>
     if a0 = 1 then
      (spec_l15Less k (v5.2, a4)).bind fun v6 =>
      (spec_l15Less k (a5, 3)).bind fun v7 =>
      some (wrap64 (v6 + v7))
     else
      (spec_l15Less k (a5, 3)).bind fun v8 =>
      some (wrap64 (v5.2 + v8))
    else
     some 0
  else
   some 0
noncomputable def g_spec_Wants : (Int × Int × Int × Int × Int × Int × Int × Int) → Option (Int) := spec_Wants_ (fun _ => g_spec_PumpOk) (fun _ => g_spec_StepRate) (fun _ => g_spec_l15Less) 0
theorem e_spec_Wants : ∀ x b, g_spec_Wants x = some b → ∃ k, spec_Wants_ (fun _ => g_spec_PumpOk) (fun _ => g_spec_StepRate) (fun _ => g_spec_l15Less) k x = some b := fun x b h => ⟨0, h⟩
/- spec_Give -/
def con_spec_Give (f : Nat → (Int × Int × Int × Int × Int × Int × Int × Int) × Int → Option ((Int × Int × Int × Int × Int × Int × Int × Int))) : Con := ⟨[.agg [.int .i64, .int .i64, .int .i64, .int .i64, .int .i64, .int .i64, .int .i64, .int .i64], .c (.int .i64)], 1, [.v true [.int .i64, .int .i64, .int .i64, .int .i64, .int .i64, .int .i64, .int .i64, .int .i64]], f⟩
def spec_Give_ (spec_PumpOk : Nat → (Int × Int × Int × Int × Int × Int × Int × Int) → Option (Bool)) (spec_StepRate : Nat → (Int × Int × Int) → Option ((Int × Int × Int) × Int)) (spec_Wants : Nat → (Int × Int × Int × Int × Int × Int × Int × Int) → Option (Int)) (spec_l15Less : Nat → Int × Int → Option (Int)) (k : Nat) : (Int × Int × Int × Int × Int × Int × Int × Int) × Int → Option ((Int × Int × Int × Int × Int × Int × Int × Int))
  | ((a0, a1, a2, a3, a4, a5, a6, a7), a8) =>
  (spec_PumpOk k (a0, (a1, (a2, (a3, (a4, (a5, (a6, a7)))))))).bind fun v0 =>
  if v0 = true then
   if a0 = 1 then
    (spec_Wants k (a0, (a1, (a2, (a3, (a4, (a5, (a6, a7)))))))).bind fun v1 =>
    (spec_l15Less k (a8, v1)).bind fun v2 =>
    if v2 < 0 then
     (spec_StepRate k (a1, (a2, a3))).bind fun v3 =>
     (spec_l15Less k (a5, 3)).bind fun v4 =>
     (spec_l15Less k (0, v4)).bind fun v5 =>
     if a0 = 1 then
      (spec_l15Less k ((wrap64 (a6 + 0)), 1000000000000)).bind fun v6 =>
      if a0 = 1 then
       if (wrap64 (a4 - (wrap64 (0 - v5)))) = 0 then
        some (2, (1, (50, (0, ((wrap64 (a4 - (wrap64 (0 - v5)))), ((wrap64 (a5 - v5)), (v6, a7)))))))
       else
        some (a0, (v3.1.1, (v3.1.2.1, (v3.1.2.2, ((wrap64 (a4 - (wrap64 (0 - v5)))), ((wrap64 (a5 - v5)), (v6, a7)))))))
      else
       some (a0, (v3.1.1, (v3.1.2.1, (v3.1.2.2, ((wrap64 (a4 - (wrap64 (0 - v5)))), ((wrap64 (a5 - v5)), (v6, a7)))))))
     else
      (spec_l15Less k ((wrap64 (a6 + 0)), 1000000000000)).bind fun v7 =>
      if a0 = 1 then
       if a4 = 0 then
        some (2, (1, (50, (0, (a4, ((wrap64 (a5 - v5)), (v7, a7)))))))
       else
        some (a0, (v3.1.1, (v3.1.2.1, (v3.1.2.2, (a4, ((wrap64 (a5 - v5)), (v7, a7)))))))
      else
       some (a0, (v3.1.1, (v3.1.2.1, (v3.1.2.2, (a4, ((wrap64 (a5 - v5)), (v7, a7)))))))
    else
     (spec_StepRate k (a1, (a2, a3))).bind fun v8 =>
     (spec_l15Less k (a5, 3)).bind fun v9 =>
     (spec_l15Less k (v2, v9)).bind fun v10 =>
     if a0 = 1 then
      (spec_l15Less k ((wrap64 (a6 + v2)), 1000000000000)).bind fun v11 =>
      if a0 = 1 then
       if (wrap64 (a4 - (wrap64 (v2 - v10)))) = 0 then
        some (2, (1, (50, (0, ((wrap64 (a4 - (wrap64 (v2 - v10)))), ((wrap64 (a5 - v10)), (v11, a7)))))))
       else
        some (a0, (v8.1.1, (v8.1.2.1, (v8.1.2.2, ((wrap64 (a4 - (wrap64 (v2 - v10)))), ((wrap64 (a5 - v10)), (v11, a7)))))))
      else
       some (a0, (v8.1.1, (v8.1.2.1, (v8.1.2.2, ((wrap64 (a4 - (wrap64 (v2 - v10)))), ((wrap64 (a5 - v10)), (v11, a7)))))))
     else
      (spec_l15Less k ((wrap64 (a6 + v2)), 1000000000000)).bind fun v12 =>
      if a0 = 1 then
       if a4 = 0 then
        some (2, (1, (50, (0, (a4, ((wrap64 (a5 - v10)), (v12, a7)))))))
       else
        some (a0, (v8.1.1, (v8.1.2.1, (v8.1.2.2, (a4, ((wrap64 (a5 - v10)), (v12, a7)))))))
      else
       some (a0, (v8.1.1, (v8.1.2.1, (v8.1.2.2, (a4, ((wrap64 (a5 - v10)), (v12, a7)))))))
   else
    if a0 = 2 then
     (spec_Wants k (a0, (a1, (a2, (a3, (a4, (a5, (a6, a7)))))))).bind fun v13 =>
     (spec_l15Less k (a8, v13)).bind fun v14 =>
     if v14 < 0 then
      (spec_StepRate k (a1, (a2, a3))).bind fun v15 =>
      (spec_l15Less k (a5, 3)).bind fun v16 =>
      (spec_l15Less k (0, v16)).bind fun v17 =>
      if a0 = 1 then
       (spec_l15Less k ((wrap64 (a6 + 0)), 1000000000000)).bind fun v18 =>
       if a0 = 1 then
        if (wrap64 (a4 - (wrap64 (0 - v17)))) = 0 then
         some (2, (1, (50, (0, ((wrap64 (a4 - (wrap64 (0 - v17)))), ((wrap64 (a5 - v17)), (v18, a7)))))))
        else
         some (a0, (v15.1.1, (v15.1.2.1, (v15.1.2.2, ((wrap64 (a4 - (wrap64 (0 - v17)))), ((wrap64 (a5 - v17)), (v18, a7)))))))
       else
        some (a0, (v15.1.1, (v15.1.2.1, (v15.1.2.2, ((wrap64 (a4 - (wrap64 (0 - v17)))), ((wrap64 (a5 - v17)), (v18, a7)))))))
      else
       (spec_l15Less k ((wrap64 (a6 + 0)), 1000000000000)).bind fun v19 =>
       if a0 = 1 then
        if a4 = 0 then
         some (2, (1, (50, (0, (a4, ((wrap64 (a5 - v17)), (v19, a7)))))))
        else
         some (a0, (v15.1.1, (v15.1.2.1, (v15.1.2.2, (a4, ((wrap64 (a5 - v17)), (v19, a7)))))))
       else
        some (a0, (v15.1.1, (v15.1.2.1, (v15.1.2.2, (a4, ((wrap64 (a5 - v17)), (v19, a7)))))))
     else
      (spec_StepRate k (a1, (a2, a3))).bind fun v20 =>
      (spec_l15Less k (a5, 3)).bind fun v21 =>
      (spec_l15Less k (v14, v21)).bind fun v22 =>
      if a0 = 1 then
       (spec_l15Less k ((wrap64 (a6 + v14)), 1000000000000)).bind fun v23 =>
       if a0 = 1 then
        if (wrap64 (a4 - (wrap64 (v14 - v22)))) = 0 then
         some (2, (1, (50, (0, ((wrap64 (a4 - (wrap64 (v14 - v22)))), ((wrap64 (a5 - v22)), (v23, a7)))))))
        else
         some (a0, (v20.1.1, (v20.1.2.1, (v20.1.2.2, ((wrap64 (a4 - (wrap64 (v14 - v22)))), ((wrap64 (a5 - v22)), (v23, a7)))))))
       else
        some (a0, (v20.1.1, (v20.1.2.1, (v20.1.2.2, ((wrap64 (a4 - (wrap64 (v14 - v22)))), ((wrap64 (a5 - v22)), (v23, a7)))))))
      else
       (spec_l15Less k ((wrap64 (a6 + v14)), 1000000000000)).bind fun v24 =>
       if a0 = 1 then
        if a4 = 0 then
         some (2, (1, (50, (0, (a4, ((wrap64 (a5 - v22)), (v24, a7)))))))
        else
         some (a0, (v20.1.1, (v20.1.2.1, (v20.1.2.2, (a4, ((wrap64 (a5 - v22)), (v24, a7)))))))
       else
        some (a0, (v20.1.1, (v20.1.2.1, (v20.1.2.2, (a4, ((wrap64 (a5 - v22)), (v24, a7)))))))
    else
     some (a0, (a1, (a2, (a3, (a4, (a5, (a6, a7)))))))
  else
   some (a0, (a1, (a2, (a3, (a4, (a5, (a6, a7)))))))
noncomputable def g_spec_Give : (Int × Int × Int × Int × Int × Int × Int × Int) × Int → Option ((Int × Int × Int × Int × Int × Int × Int × Int)) := spec_Give_ (fun _ => g_spec_PumpOk) (fun _ => g_spec_StepRate) (fun _ => g_spec_Wants) (fun _ => g_spec_l15Less) 0
theorem e_spec_Give : ∀ x b, g_spec_Give x = some b → ∃ k, spec_Give_ (fun _ => g_spec_PumpOk) (fun _ => g_spec_StepRate) (fun _ => g_spec_Wants) (fun _ => g_spec_l15Less) k x = some b := fun x b h => ⟨0, h⟩
/- laws_FnExactGive -/
def con_laws_FnExactGive (f : Nat → (Int × Int × Int × Int × Int × Int × Int × Int) × Int → Option (Bool)) : Con := ⟨[.agg [.int .i64, .int .i64, .int .i64, .int .i64, .int .i64, .int .i64, .int .i64, .int .i64], .c (.int .i64)], 1, [.v false [.bool]], f⟩
def laws_FnExactGive_ (impl_Give : Nat → (Int × Int × Int × Int × Int × Int × Int × Int) × Int → Option ((Int × Int × Int × Int × Int × Int × Int × Int))) (laws_eqPump : Nat → (Int × Int × Int × Int × Int × Int × Int × Int) × (Int × Int × Int × Int × Int × Int × Int × Int) → Option (Bool)) (laws_toPump : Nat → (Int × Int × Int × Int × Int × Int × Int × Int) → Option ((Int × Int × Int × Int × Int × Int × Int × Int))) (spec_Give : Nat → (Int × Int × Int × Int × Int × Int × Int × Int) × Int → Option ((Int × Int × Int × Int × Int × Int × Int × Int))) (k : Nat) : (Int × Int × Int × Int × Int × Int × Int × Int) × Int → Option (Bool)
  | ((a0, a1, a2, a3, a4, a5, a6, a7), a8) =>
  (laws_toPump k (a0, (a1, (a2, (a3, (a4, (a5, (a6, a7)))))))).bind fun v0 =>
  (spec_Give k (v0, a8)).bind fun v1 =>
  (laws_toPump k (a0, (a1, (a2, (a3, (a4, (a5, (a6, a7)))))))).bind fun v2 =>
  (impl_Give k (v2, a8)).bind fun v3 =>
  (laws_eqPump k (v3, v1)).bind fun v4 =>
  if v4 = true then
   some true
  else
   some false
noncomputable def g_laws_FnExactGive : (Int × Int × Int × Int × Int × Int × Int × Int) × Int → Option (Bool) := laws_FnExactGive_ (fun _ => g_impl_Give) (fun _ => g_laws_eqPump) (fun _ => g_laws_toPump) (fun _ => g_spec_Give) 0
theorem e_laws_FnExactGive : ∀ x b, g_laws_FnExactGive x = some b → ∃ k, laws_FnExactGive_ (fun _ => g_impl_Give) (fun _ => g_laws_eqPump) (fun _ => g_laws_toPump) (fun _ => g_spec_Give) k x = some b := fun x b h => ⟨0, h⟩
end Go.Sx.T
