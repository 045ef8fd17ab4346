/- Functions of the program as functions of Lean, and that the program keeps to them. -/
import Derived.Test.YtklcjpidbpplkaaSxP1
set_option maxRecDepth 100000
set_option linter.unusedVariables false
set_option linter.unusedSimpArgs false
namespace Go.Proofs
end Go.Proofs
namespace Go.Sx.T
open Go Go.Sx Go.Proofs Go.RowKit
/- impl_within -/
def con_impl_within (f : Nat → Int × Int × Int → Option (Bool)) : Con := ⟨[.c (.int .i64), .c (.int .i64), .c (.int .i64)], 1, [.v false [.bool]], f⟩
def impl_within_ (k : Nat) : Int × Int × Int → Option (Bool)
  | (a0, a1, a2) =>
  if a1 ≤ a0 then
   some (decide (a0 ≤ a2))
  else
   some false
noncomputable def g_impl_within : Int × Int × Int → Option (Bool) := impl_within_  0
theorem e_impl_within : ∀ x b, g_impl_within x = some b → ∃ k, impl_within_  k x = some b := fun x b h => ⟨0, h⟩
/- impl_RateOk -/
def con_impl_RateOk (f : Nat → (Int × Int × Int) → Option (Bool)) : Con := ⟨[.agg [.int .i64, .int .i64, .int .i64]], 1, [.v false [.bool]], f⟩
def impl_RateOk_ (impl_within : Nat → Int × Int × Int → Option (Bool)) (k : Nat) : (Int × Int × Int) → Option (Bool)
  | (a0, a1, a2) =>
  (impl_within k (a0, (0, 1000000))).bind fun v0 =>
  if v0 = true then
   (impl_within k (a1, (1, 1000000))).bind fun v1 =>
   if v1 = true then
    (impl_within k (a2, (0, (wrap64 (a1 - 1))))).bind fun v2 =>
    some v2
   else
    some false
  else
   some false
noncomputable def g_impl_RateOk : (Int × Int × Int) → Option (Bool) := impl_RateOk_ (fun _ => g_impl_within) 0
theorem e_impl_RateOk : ∀ x b, g_impl_RateOk x = some b → ∃ k, impl_RateOk_ (fun _ => g_impl_within) k x = some b := fun x b h => ⟨0, h⟩
/- impl_PumpOk -/
def con_impl_PumpOk (f : Nat → (Int × Int × Int × Int × Int × Int × Int × Int) → Option (Bool)) : Con := ⟨[.agg [.int .i64, .int .i64, .int .i64, .int .i64, .int .i64, .int .i64, .int .i64, .int .i64]], 1, [.v false [.bool]], f⟩
def impl_PumpOk_ (impl_RateOk : Nat → (Int × Int × Int) → Option (Bool)) (impl_within : Nat → Int × Int × Int → Option (Bool)) (k : Nat) : (Int × Int × Int × Int × Int × Int × Int × Int) → Option (Bool)
  | (a0, a1, a2, a3, a4, a5, a6, a7) =>
  (impl_within k (a0, (0, 3))).bind fun v0 =>
  if v0 = true then
   (impl_RateOk k (a1, (a2, a3))).bind fun v1 =>
   if v1 = true then
    if (wrap64 (3 * a2)) < a1 then
     some false
    else
     (impl_within k (a7, (0, 2))).bind fun v2 =>
     if v2 = true then
      if a7 = 0 then
       if a0 = 1 then
        (impl_within k (a4, (0, 5000))).bind fun v3 =>
        if v3 = true then
         if (true == (decide (0 < a4))) = true then
          (impl_within k (a5, (0, 100))).bind fun v4 =>
          if v4 = true then
           (impl_within k (a6, (0, 1000000000000))).bind fun v5 =>
           some v5
          else
           some false
         else
          some false
        else
         some false
       else
        if a0 = 3 then
         (impl_within k (a4, (0, 5000))).bind fun v6 =>
         if v6 = true then
          if ((decide (a7 = 1)) == (decide (0 < a4))) = true then
           (impl_within k (a5, (0, 100))).bind fun v7 =>
           if v7 = true then
            (impl_within k (a6, (0, 1000000000000))).bind fun v8 =>
            some v8
           else
            some false
          else
           some false
         else
          some false
        else
         (impl_within k (a4, (0, 5000))).bind fun v9 =>
         if v9 = true then
          if (false == (decide (0 < a4))) = true then
           (impl_within k (a5, (0, 100))).bind fun v10 =>
           if v10 = true then
            (impl_within k (a6, (0, 1000000000000))).bind fun v11 =>
            some v11
           else
            some false
          else
           some false
         else
          some false
      else
       if a0 = 3 then
        if a0 = 1 then
         (impl_within k (a4, (0, 5000))).bind fun v12 =>
         if v12 = true then
          if (true == (decide (0 < a4))) = true then
           (impl_within k (a5, (0, 100))).bind fun v13 =>
           if v13 = true then
            (impl_within k (a6, (0, 1000000000000))).bind fun v14 =>
            some v14
           else
            some false
          else
           some false
         else
          some false
        else
         if a0 = 3 then
          (impl_within k (a4, (0, 5000))).bind fun v15 =>
          if v15 = true then
           if ((decide (a7 = 1)) == (decide (0 < a4))) = true then
            (impl_within k (a5, (0, 100))).bind fun v16 =>
            if v16 = true then
             (impl_within k (a6, (0, 1000000000000))).bind fun v17 =>
             some v17
            else
             some false
           else
            some false
          else
           some false
         else
          (impl_within k (a4, (0, 5000))).bind fun v18 =>
          if v18 = true then
           if (false == (decide (0 < a4))) = true then
            (impl_within k (a5, (0, 100))).bind fun v19 =>
            if v19 = true then
             (impl_within k (a6, (0, 1000000000000))).bind fun v20 =>
             some v20
            else
             some false
           else
            some false
          else
           some false
       else
        some false
     else
      some false
   else
    some false
  else
   some false
noncomputable def g_impl_PumpOk : (Int × Int × Int × Int × Int × Int × Int × Int) → Option (Bool) := impl_PumpOk_ (fun _ => g_impl_RateOk) (fun _ => g_impl_within) 0
theorem e_impl_PumpOk : ∀ x b, g_impl_PumpOk x = some b → ∃ k, impl_PumpOk_ (fun _ => g_impl_RateOk) (fun _ => g_impl_within) k x = some b := fun x b h => ⟨0, h⟩
/- impl_OrderOk -/
def con_impl_OrderOk (f : Nat → (Int × Int × Int × Int) → Option (Bool)) : Con := ⟨[.agg [.int .i64, .int .i64, .int .i64, .int .i64]], 1, [.v false [.bool]], f⟩
def impl_OrderOk_ (impl_within : Nat → Int × Int × Int → Option (Bool)) (k : Nat) : (Int × Int × Int × Int) → Option (Bool)
  | (a0, a1, a2, a3) =>
  if a0 = 1 then
   (impl_within k (a2, (1, 1000))).bind fun v0 =>
   if v0 = true then
    (impl_within k (a1, (1, (mn 1000 (wrap64 (3 * a2)))))).bind fun v1 =>
    if v1 = true then
     (impl_within k (a3, (1, 5000))).bind fun v2 =>
     some v2
    else
     some false
   else
    some false
  else
   if a0 = 2 then
    if a0 = 2 then
     if a1 = 0 then
      if a2 = 0 then
       if a3 = a3 then
        (impl_within k (a3, (1, 100))).bind fun v3 =>
        some v3
       else
        some false
      else
       some false
     else
      some false
    else
     some false
   else
    (impl_within k (a0, (3, 6))).bind fun v4 =>
    if v4 = true then
     some ((decide (a0 = a0)) && ((decide (a1 = 0)) && ((decide (a2 = 0)) && (decide (a3 = 0)))))
    else
     some false
noncomputable def g_impl_OrderOk : (Int × Int × Int × Int) → Option (Bool) := impl_OrderOk_ (fun _ => g_impl_within) 0
theorem e_impl_OrderOk : ∀ x b, g_impl_OrderOk x = some b → ∃ k, impl_OrderOk_ (fun _ => g_impl_within) k x = some b := fun x b h => ⟨0, h⟩
/- impl_Take -/
def con_impl_Take (f : Nat → (Int × Int × Int × Int × Int × Int × Int × Int) × (Int × Int × Int × Int) → Option ((Int × Int × Int × Int × Int × Int × Int × Int) × Bool)) : Con := ⟨[.agg [.int .i64, .int .i64, .int .i64, .int .i64, .int .i64, .int .i64, .int .i64, .int .i64], .agg [.int .i64, .int .i64, .int .i64, .int .i64]], 2, [.v true [.int .i64, .int .i64, .int .i64, .int .i64, .int .i64, .int .i64, .int .i64, .int .i64], .v false [.bool]], f⟩
def impl_Take_ (impl_OrderOk : Nat → (Int × Int × Int × Int) → Option (Bool)) (impl_PumpOk : Nat → (Int × Int × Int × Int × Int × Int × Int × Int) → Option (Bool)) (k : Nat) : (Int × Int × Int × Int × Int × Int × Int × Int) × (Int × Int × Int × Int) → Option ((Int × Int × Int × Int × Int × Int × Int × Int) × Bool)
  | ((a0, a1, a2, a3, a4, a5, a6, a7), (a8, a9, a10, a11)) =>
  (impl_PumpOk k (a0, (a1, (a2, (a3, (a4, (a5, (a6, a7)))))))).bind fun v0 =>
  if v0 = true then
   (impl_OrderOk k (a8, (a9, (a10, a11)))).bind fun v1 =>
   if v1 = true then
    if a8 = 1 then
     if a0 = 0 then
      some ((1, (a9, (a10, (0, (a11, (a5, (a6, a7))))))), true)
     else
      if a0 = 2 then
       some ((1, (a9, (a10, (0, (a11, (a5, (a6, a7))))))), true)
      else
       some ((a0, (a1, (a2, (a3, (a4, (a5, (a6, a7))))))), false)
    else
     if a8 = 2 then
      if a0 = 1 then
       if a5 = 0 then
        some ((a0, (a1, (a2, (a3, (a4, (a11, (a6, a7))))))), true)
       else
        some ((a0, (a1, (a2, (a3, (a4, (a5, (a6, a7))))))), false)
      else
       if a0 = 2 then
        if a5 = 0 then
         some ((a0, (a1, (a2, (a3, (a4, (a11, (a6, a7))))))), true)
        else
         some ((a0, (a1, (a2, (a3, (a4, (a5, (a6, a7))))))), false)
       else
        some ((a0, (a1, (a2, (a3, (a4, (a5, (a6, a7))))))), false)
     else
      if a8 = 3 then
       if a0 = 1 then
        some ((3, (a1, (a2, (a3, (a4, (a5, (a6, a0))))))), true)
       else
        if a0 = 2 then
         some ((3, (a1, (a2, (a3, (a4, (a5, (a6, a0))))))), true)
        else
         some ((a0, (a1, (a2, (a3, (a4, (a5, (a6, a7))))))), false)
      else
       if a8 = 4 then
        if a0 = 3 then
         some ((a7, (a1, (a2, (a3, (a4, (a5, (a6, 0))))))), true)
        else
         some ((a0, (a1, (a2, (a3, (a4, (a5, (a6, a7))))))), false)
       else
        if a8 = 6 then
         some ((0, (a1, (a2, (a3, (0, (0, (a6, 0))))))), true)
        else
         some ((a0, (a1, (a2, (a3, (a4, (a5, (a6, a7))))))), false)
   else
    some ((a0, (a1, (a2, (a3, (a4, (a5, (a6, a7))))))), false)
  else
   some ((a0, (a1, (a2, (a3, (a4, (a5, (a6, a7))))))), false)
noncomputable def g_impl_Take : (Int × Int × Int × Int × Int × Int × Int × Int) × (Int × Int × Int × Int) → Option ((Int × Int × Int × Int × Int × Int × Int × Int) × Bool) := impl_Take_ (fun _ => g_impl_OrderOk) (fun _ => g_impl_PumpOk) 0
theorem e_impl_Take : ∀ x b, g_impl_Take x = some b → ∃ k, impl_Take_ (fun _ => g_impl_OrderOk) (fun _ => g_impl_PumpOk) k x = some b := fun x b h => ⟨0, h⟩
/- spec_l01In -/
def con_spec_l01In (f : Nat → Int × Int × Int → Option (Bool)) : Con := ⟨[.c (.int .i64), .c (.int .i64), .c (.int .i64)], 1, [.v false [.bool]], f⟩
def spec_l01In_ (k : Nat) : Int × Int × Int → Option (Bool)
  | (a0, a1, a2) =>
  if a1 ≤ a0 then
   some (decide (a0 ≤ a2))
  else
   some false
noncomputable def g_spec_l01In : Int × Int × Int → Option (Bool) := spec_l01In_  0
theorem e_spec_l01In : ∀ x b, g_spec_l01In x = some b → ∃ k, spec_l01In_  k x = some b := fun x b h => ⟨0, h⟩
/- spec_OrderOk -/
def con_spec_OrderOk (f : Nat → (Int × Int × Int × Int) → Option (Bool)) : Con := ⟨[.agg [.int .i64, .int .i64, .int .i64, .int .i64]], 1, [.v false [.bool]], f⟩
def spec_OrderOk_ (spec_l01In : Nat → Int × Int × Int → Option (Bool)) (k : Nat) : (Int × Int × Int × Int) → Option (Bool)
  | (a0, a1, a2, a3) =>
  if a0 = 1 then
   (spec_l01In k (a2, (1, 1000))).bind fun v0 =>
   if v0 = true then
    (spec_l01In k (a1, (1, 1000))).bind fun v1 =>
    if v1 = true then
     if a1 ≤ (wrap64 (3 * a2)) then
      (spec_l01In k (a3, (1, 5000))).bind fun v2 =>
      some v2
     else
      some false
    else
     some false
   else
    some false
  else
   if a0 = 2 then
    (spec_l01In k (a3, (1, 100))).bind fun v3 =>
    if v3 = true then
     if a1 = 0 then
      some (decide (a2 = 0))
     else
      some false
    else
     some false
   else
    (spec_l01In k (a0, (3, 6))).bind fun v4 =>
    if v4 = true then
     if a1 = 0 then
      if a2 = 0 then
       some (decide (a3 = 0))
      else
       some false
     else
      some false
    else
     some false
noncomputable def g_spec_OrderOk : (Int × Int × Int × Int) → Option (Bool) := spec_OrderOk_ (fun _ => g_spec_l01In) 0
theorem e_spec_OrderOk : ∀ x b, g_spec_OrderOk x = some b → ∃ k, spec_OrderOk_ (fun _ => g_spec_l01In) k x = some b := fun x b h => ⟨0, h⟩
/- laws_eqRate -/
def con_laws_eqRate (f : Nat → (Int × Int × Int) × (Int × Int × Int) → Option (Bool)) : Con := ⟨[.agg [.int .i64, .int .i64, .int .i64], .agg [.int .i64, .int .i64, .int .i64]], 1, [.v false [.bool]], f⟩
def laws_eqRate_ (k : Nat) : (Int × Int × Int) × (Int × Int × Int) → Option (Bool)
  | ((a0, a1, a2), (a3, a4, a5)) =>
  if a0 = a3 then
   if a1 = a4 then
    if a2 = a5 then
     some true
    else
     some false
   else
    some false
  else
   some false
noncomputable def g_laws_eqRate : (Int × Int × Int) × (Int × Int × Int) → Option (Bool) := laws_eqRate_  0
theorem e_laws_eqRate : ∀ x b, g_laws_eqRate x = some b → ∃ k, laws_eqRate_  k x = some b := fun x b h => ⟨0, h⟩
/- laws_eqPump -/
def con_laws_eqPump (f : Nat → (Int × Int × Int × Int × Int × Int × Int × Int) × (Int × Int × Int × Int × Int × Int × Int × Int) → Option (Bool)) : Con := ⟨[.agg [.int .i64, .int .i64, .int .i64, .int .i64, .int .i64, .int .i64, .int .i64, .int .i64], .agg [.int .i64, .int .i64, .int .i64, .int .i64, .int .i64, .int .i64, .int .i64, .int .i64]], 1, [.v false [.bool]], f⟩
def laws_eqPump_ (laws_eqRate : Nat → (Int × Int × Int) × (Int × Int × Int) → Option (Bool)) (k : Nat) : (Int × Int × Int × Int × Int × Int × Int × Int) × (Int × Int × Int × Int × Int × Int × Int × Int) → Option (Bool)
  | ((a0, a1, a2, a3, a4, a5, a6, a7), (a8, a9, a10, a11, a12, a13, a14, a15)) =>
  if a0 = a8 then
   (laws_eqRate k ((a1, (a2, a3)), (a9, (a10, a11)))).bind fun v0 =>
   if v0 = true then
    if a4 = a12 then
     if a5 = a13 then
      if a6 = a14 then
       if a7 = a15 then
        some true
       else
        some false
      else
       some false
     else
      some false
    else
     some false
   else
    some false
  else
   some false
noncomputable def g_laws_eqPump : (Int × Int × Int × Int × Int × Int × Int × Int) × (Int × Int × Int × Int × Int × Int × Int × Int) → Option (Bool) := laws_eqPump_ (fun _ => g_laws_eqRate) 0
theorem e_laws_eqPump : ∀ x b, g_laws_eqPump x = some b → ∃ k, laws_eqPump_ (fun _ => g_laws_eqRate) k x = some b := fun x b h => ⟨0, h⟩
/- laws_toRate -/
def con_laws_toRate (f : Nat → (Int × Int × Int) → Option ((Int × Int × Int))) : Con := ⟨[.agg [.int .i64, .int .i64, .int .i64]], 1, [.v true [.int .i64, .int .i64, .int .i64]], f⟩
def laws_toRate_ (k : Nat) : (Int × Int × Int) → Option ((Int × Int × Int))
  | (a0, a1, a2) =>
  some (a0, (a1, a2))
noncomputable def g_laws_toRate : (Int × Int × Int) → Option ((Int × Int × Int)) := laws_toRate_  0
theorem e_laws_toRate : ∀ x b, g_laws_toRate x = some b → ∃ k, laws_toRate_  k x = some b := fun x b h => ⟨0, h⟩
/- laws_toPump -/
def con_laws_toPump (f : Nat → (Int × Int × Int × Int × Int × Int × Int × Int) → Option ((Int × Int × Int × Int × Int × Int × Int × Int))) : Con := ⟨[.agg [.int .i64, .int .i64, .int .i64, .int .i64, .int .i64, .int .i64, .int .i64, .int .i64]], 1, [.v true [.int .i64, .int .i64, .int .i64, .int .i64, .int .i64, .int .i64, .int .i64, .int .i64]], f⟩
def laws_toPump_ (laws_toRate : Nat → (Int × Int × Int) → Option ((Int × Int × Int))) (k : Nat) : (Int × Int × Int × Int × Int × Int × Int × Int) → Option ((Int × Int × Int × Int × Int × Int × Int × Int))
  | (a0, a1, a2, a3, a4, a5, a6, a7) =>
  (laws_toRate k (a1, (a2, a3))).bind fun v0 =>
  some (a0, (v0.1, (v0.2.1, (v0.2.2, (a4, (a5, (a6, a7)))))))
noncomputable def g_laws_toPump : (Int × Int × Int × Int × Int × Int × Int × Int) → Option ((Int × Int × Int × Int × Int × Int × Int × Int)) := laws_toPump_ (fun _ => g_laws_toRate) 0
theorem e_laws_toPump : ∀ x b, g_laws_toPump x = some b → ∃ k, laws_toPump_ (fun _ => g_laws_toRate) k x = some b := fun x b h => ⟨0, h⟩
/- spec_RateOk -/
def con_spec_RateOk (f : Nat → (Int × Int × Int) → Option (Bool)) : Con := ⟨[.agg [.int .i64, .int .i64, .int .i64]], 1, [.v false [.bool]], f⟩
def spec_RateOk_ (spec_l01In : Nat → Int × Int × Int → Option (Bool)) (k : Nat) : (Int × Int × Int) → Option (Bool)
  | (a0, a1, a2) =>
  (spec_l01In k (a0, (0, 1000000))).bind fun v0 =>
  if v0 = true then
   (spec_l01In k (a1, (1, 1000000))).bind fun v1 =>
   if v1 = true then
    (spec_l01In k (a2, (0, (wrap64 (a1 - 1))))).bind fun v2 =>
    some v2
   else
    some false
  else
   some false
noncomputable def g_spec_RateOk : (Int × Int × Int) → Option (Bool) := spec_RateOk_ (fun _ => g_spec_l01In) 0
theorem e_spec_RateOk : ∀ x b, g_spec_RateOk x = some b → ∃ k, spec_RateOk_ (fun _ => g_spec_l01In) k x = some b := fun x b h => ⟨0, h⟩
/- spec_PumpOk -/
def con_spec_PumpOk (f : Nat → (Int × Int × Int × Int × Int × Int × Int × Int) → Option (Bool)) : Con := ⟨[.agg [.int .i64, .int .i64, .int .i64, .int .i64, .int .i64, .int .i64, .int .i64, .int .i64]], 1, [.v false [.bool]], f⟩
def spec_PumpOk_ (spec_RateOk : Nat → (Int × Int × Int) → Option (Bool)) (spec_l01In : Nat → Int × Int × Int → Option (Bool)) (k : Nat) : (Int × Int × Int × Int × Int × Int × Int × Int) → Option (Bool)
  | (a0, a1, a2, a3, a4, a5, a6, a7) =>
  if a0 = 1 then
   (spec_l01In k (a0, (0, 3))).bind fun v0 =>
   if v0 = true then
    (spec_RateOk k (a1, (a2, a3))).bind fun v1 =>
    if v1 = true then
     if (wrap64 (3 * a2)) < a1 then
      some false
     else
      (spec_l01In k (a4, (0, 5000))).bind fun v2 =>
      if v2 = true then
       if ((decide (0 < a4)) == true) = true then
        (spec_l01In k (a5, (0, 100))).bind fun v3 =>
        if v3 = true then
         (spec_l01In k (a6, (0, 1000000000000))).bind fun v4 =>
         if v4 = true then
          (spec_l01In k (a7, (0, 2))).bind fun v5 =>
          if v5 = true then
           if a0 = 3 then
            some true
           else
            some (decide (a7 = 0))
          else
           some false
         else
          some false
        else
         some false
       else
        some false
      else
       some false
    else
     some false
   else
    some false
  else
   if a0 = 3 then
    (spec_l01In k (a0, (0, 3))).bind fun v6 =>
    if v6 = true then
     (spec_RateOk k (a1, (a2, a3))).bind fun v7 =>
     if v7 = true then
      if (wrap64 (3 * a2)) < a1 then
       some false
      else
       (spec_l01In k (a4, (0, 5000))).bind fun v8 =>
       if v8 = true then
        if ((decide (0 < a4)) == (decide (a7 = 1))) = true then
         (spec_l01In k (a5, (0, 100))).bind fun v9 =>
         if v9 = true then
          (spec_l01In k (a6, (0, 1000000000000))).bind fun v10 =>
          if v10 = true then
           (spec_l01In k (a7, (0, 2))).bind fun v11 =>
           if v11 = true then
            if a0 = 3 then
             some true
            else
             some (decide (a7 = 0))
           else
            some false
          else
           some false
         else
          some false
        else
         some false
       else
        some false
     else
      some false
    else
     some false
   else
    (spec_l01In k (a0, (0, 3))).bind fun v12 =>
    if v12 = true then
     (spec_RateOk k (a1, (a2, a3))).bind fun v13 =>
     if v13 = true then
      if (wrap64 (3 * a2)) < a1 then
       some false
      else
       (spec_l01In k (a4, (0, 5000))).bind fun v14 =>
       if v14 = true then
        if ((decide (0 < a4)) == false) = true then
         (spec_l01In k (a5, (0, 100))).bind fun v15 =>
         if v15 = true then
          (spec_l01In k (a6, (0, 1000000000000))).bind fun v16 =>
          if v16 = true then
           (spec_l01In k (a7, (0, 2))).bind fun v17 =>
           if v17 = true then
            if a0 = 3 then
             some true
            else
             some (decide (a7 = 0))
           else
            some false
          else
           some false
         else
          some false
        else
         some false
       else
        some false
     else
      some false
    else
     some false
noncomputable def g_spec_PumpOk : (Int × Int × Int × Int × Int × Int × Int × Int) → Option (Bool) := spec_PumpOk_ (fun _ => g_spec_RateOk) (fun _ => g_spec_l01In) 0
theorem e_spec_PumpOk : ∀ x b, g_spec_PumpOk x = some b → ∃ k, spec_PumpOk_ (fun _ => g_spec_RateOk) (fun _ => g_spec_l01In) k x = some b := fun x b h => ⟨0, h⟩
/- laws_toOrder -/
def con_laws_toOrder (f : Nat → (Int × Int × Int × Int) → Option ((Int × Int × Int × Int))) : Con := ⟨[.agg [.int .i64, .int .i64, .int .i64, .int .i64]], 1, [.v true [.int .i64, .int .i64, .int .i64, .int .i64]], f⟩
def laws_toOrder_ (k : Nat) : (Int × Int × Int × Int) → Option ((Int × Int × Int × Int))
  | (a0, a1, a2, a3) =>
  some (a0, (a1, (a2, a3)))
noncomputable def g_laws_toOrder : (Int × Int × Int × Int) → Option ((Int × Int × Int × Int)) := laws_toOrder_  0
theorem e_laws_toOrder : ∀ x b, g_laws_toOrder x = some b → ∃ k, laws_toOrder_  k x = some b := fun x b h => ⟨0, h⟩
/- spec_Take -/
def con_spec_Take (f : Nat → (Int × Int × Int × Int × Int × Int × Int × Int) × (Int × Int × Int × Int) → Option ((Int × Int × Int × Int × Int × Int × Int × Int) × Bool)) : Con := ⟨[.agg [.int .i64, .int .i64, .int .i64, .int .i64, .int .i64, .int .i64, .int .i64, .int .i64], .agg [.int .i64, .int .i64, .int .i64, .int .i64]], 2, [.v true [.int .i64, .int .i64, .int .i64, .int .i64, .int .i64, .int .i64, .int .i64, .int .i64], .v false [.bool]], f⟩
def spec_Take_ (spec_OrderOk : Nat → (Int × Int × Int × Int) → Option (Bool)) (spec_PumpOk : Nat → (Int × Int × Int × Int × Int × Int × Int × Int) → Option (Bool)) (k : Nat) : (Int × Int × Int × Int × Int × Int × Int × Int) × (Int × Int × Int × Int) → Option ((Int × Int × Int × Int × Int × Int × Int × Int) × Bool)
  | ((a0, a1, a2, a3, a4, a5, a6, a7), (a8, a9, a10, a11)) =>
  (spec_PumpOk k (a0, (a1, (a2, (a3, (a4, (a5, (a6, a7)))))))).bind fun v0 =>
  if v0 = true then
   (spec_OrderOk k (a8, (a9, (a10, a11)))).bind fun v1 =>
   if v1 = true then
    if a8 = 1 then
     if a0 = 0 then
      some ((1, (a9, (a10, (0, (a11, (a5, (a6, a7))))))), true)
     else
      if a0 = 2 then
       some ((1, (a9, (a10, (0, (a11, (a5, (a6, a7))))))), true)
      else
       some ((a0, (a1, (a2, (a3, (a4, (a5, (a6, a7))))))), false)
    else
     if a8 = 2 then
      if a0 = 0 then
       some ((a0, (a1, (a2, (a3, (a4, (a5, (a6, a7))))))), false)
      else
       if a0 = 3 then
        some ((a0, (a1, (a2, (a3, (a4, (a5, (a6, a7))))))), false)
       else
        if 0 < a5 then
         some ((a0, (a1, (a2, (a3, (a4, (a5, (a6, a7))))))), false)
        else
         some ((a0, (a1, (a2, (a3, (a4, (a11, (a6, a7))))))), true)
     else
      if a8 = 3 then
       if a0 = 0 then
        some ((a0, (a1, (a2, (a3, (a4, (a5, (a6, a7))))))), false)
       else
        if a0 = 3 then
         some ((a0, (a1, (a2, (a3, (a4, (a5, (a6, a7))))))), false)
        else
         some ((3, (a1, (a2, (a3, (a4, (a5, (a6, a0))))))), true)
      else
       if a8 = 4 then
        if a0 = 3 then
         some ((a7, (a1, (a2, (a3, (a4, (a5, (a6, 0))))))), true)
        else
         some ((a0, (a1, (a2, (a3, (a4, (a5, (a6, a7))))))), false)
       else
        if a8 = 6 then
         some ((0, (a1, (a2, (a3, (0, (0, (a6, 0))))))), true)
        else
         some ((a0, (a1, (a2, (a3, (a4, (a5, (a6, a7))))))), false)
   else
    some ((a0, (a1, (a2, (a3, (a4, (a5, (a6, a7))))))), false)
  else
   some ((a0, (a1, (a2, (a3, (a4, (a5, (a6, a7))))))), false)
noncomputable def g_spec_Take : (Int × Int × Int × Int × Int × Int × Int × Int) × (Int × Int × Int × Int) → Option ((Int × Int × Int × Int × Int × Int × Int × Int) × Bool) := spec_Take_ (fun _ => g_spec_OrderOk) (fun _ => g_spec_PumpOk) 0
theorem e_spec_Take : ∀ x b, g_spec_Take x = some b → ∃ k, spec_Take_ (fun _ => g_spec_OrderOk) (fun _ => g_spec_PumpOk) k x = some b := fun x b h => ⟨0, h⟩
/- laws_FnExactTake -/
def con_laws_FnExactTake (f : Nat → (Int × Int × Int × Int × Int × Int × Int × Int) × (Int × Int × Int × Int) → Option (Bool)) : Con := ⟨[.agg [.int .i64, .int .i64, .int .i64, .int .i64, .int .i64, .int .i64, .int .i64, .int .i64], .agg [.int .i64, .int .i64, .int .i64, .int .i64]], 1, [.v false [.bool]], f⟩
def laws_FnExactTake_ (impl_Take : Nat → (Int × Int × Int × Int × Int × Int × Int × Int) × (Int × Int × Int × Int) → Option ((Int × Int × Int × Int × Int × Int × Int × Int) × Bool)) (laws_eqPump : Nat → (Int × Int × Int × Int × Int × Int × Int × Int) × (Int × Int × Int × Int × Int × Int × Int × Int) → Option (Bool)) (laws_toOrder : Nat → (Int × Int × Int × Int) → Option ((Int × Int × Int × Int))) (laws_toPump : Nat → (Int × Int × Int × Int × Int × Int × Int × Int) → Option ((Int × Int × Int × Int × Int × Int × Int × Int))) (spec_Take : Nat → (Int × Int × Int × Int × Int × Int × Int × Int) × (Int × Int × Int × Int) → Option ((Int × Int × Int × Int × Int × Int × Int × Int) × Bool)) (k : Nat) : (Int × Int × Int × Int × Int × Int × Int × Int) × (Int × Int × Int × Int) → Option (Bool)
  | ((a0, a1, a2, a3, a4, a5, a6, a7), (a8, a9, a10, a11)) =>
  (laws_toPump k (a0, (a1, (a2, (a3, (a4, (a5, (a6, a7)))))))).bind fun v0 =>
  (laws_toOrder k (a8, (a9, (a10, a11)))).bind fun v1 =>
  (spec_Take k (v0, v1)).bind fun v2 =>
  (laws_toPump k (a0, (a1, (a2, (a3, (a4, (a5, (a6, a7)))))))).bind fun v3 =>
  (laws_toOrder k (a8, (a9, (a10, a11)))).bind fun v4 =>
  (impl_Take k (v3, v4)).bind fun v5 =>
  (laws_eqPump k (v5.1, v2.1)).bind fun v6 =>
  if v6 = true then
   if (v5.2 == v2.2) = true then
    some true
   else
    some false
  else
   some false
noncomputable def g_laws_FnExactTake : (Int × Int × Int × Int × Int × Int × Int × Int) × (Int × Int × Int × Int) → Option (Bool) := laws_FnExactTake_ (fun _ => g_impl_Take) (fun _ => g_laws_eqPump) (fun _ => g_laws_toOrder) (fun _ => g_laws_toPump) (fun _ => g_spec_Take) 0
theorem e_laws_FnExactTake : ∀ x b, g_laws_FnExactTake x = some b → ∃ k, laws_FnExactTake_ (fun _ => g_impl_Take) (fun _ => g_laws_eqPump) (fun _ => g_laws_toOrder) (fun _ => g_laws_toPump) (fun _ => g_spec_Take) k x = some b := fun x b h => ⟨0, h⟩
end Go.Sx.T
