/- Functions of the program as functions of Lean, and that the program keeps to them. -/
import Derived.Test.YtogagfoikapbpaaGreatDoorFnScriptA0
set_option maxRecDepth 100000
set_option linter.unusedVariables false
set_option linter.unusedSimpArgs false
namespace Go.Proofs
end Go.Proofs
namespace Go.Sx.T
open Go Go.Sx Go.Proofs Go.RowKit
/- spec_Give -/
def con_spec_Give (f : Nat → (Int × Int × Int × Int × Int × Int × Int × Int) × Int → Option ((Int × Int × Int × Int × Int × Int × Int × Int))) : Con := ⟨[.agg [.int .i64, .int .i64, .int .i64, .int .i64, .int .i64, .int .i64, .int .i64, .int .i64], .c (.int .i64)], 1, [.v true [.int .i64, .int .i64, .int .i64, .int .i64, .int .i64, .int .i64, .int .i64, .int .i64]], f⟩
def spec_Give_ (spec_PumpOk : Nat → (Int × Int × Int × Int × Int × Int × Int × Int) → Option (Bool)) (spec_StepRate : Nat → (Int × Int × Int) → Option ((Int × Int × Int) × Int)) (spec_Wants : Nat → (Int × Int × Int × Int × Int × Int × Int × Int) → Option (Int)) (spec_l15Less : Nat → Int × Int → Option (Int)) (k : Nat) : (Int × Int × Int × Int × Int × Int × Int × Int) × Int → Option ((Int × Int × Int × Int × Int × Int × Int × Int))
  | ((a0, a1, a2, a3, a4, a5, a6, a7), a8) =>
  (spec_PumpOk k (a0, (a1, (a2, (a3, (a4, (a5, (a6, a7)))))))).bind fun v0 =>
  if v0 = true then
   if a0 = 1 then
    (spec_Wants k (a0, (a1, (a2, (a3, (a4, (a5, (a6, a7)))))))).bind fun v1 =>
    (spec_l15Less k (a8, v1)).bind fun v2 =>
    if v2 < 0 then
     (spec_StepRate k (a1, (a2, a3))).bind fun v3 =>
     (spec_l15Less k (a5, 3)).bind fun v4 =>
     (spec_l15Less k (0, v4)).bind fun v5 =>
     if a0 = 1 then
      (spec_l15Less k ((wrap64 (a6 + 0)), 1000000000000)).bind fun v6 =>
      if a0 = 1 then
       if (wrap64 (a4 - (wrap64 (0 - v5)))) = 0 then
        some (2, (1, (50, (0, ((wrap64 (a4 - (wrap64 (0 - v5)))), ((wrap64 (a5 - v5)), (v6, a7)))))))
       else
        some (a0, (v3.1.1, (v3.1.2.1, (v3.1.2.2, ((wrap64 (a4 - (wrap64 (0 - v5)))), ((wrap64 (a5 - v5)), (v6, a7)))))))
      else
       some (a0, (v3.1.1, (v3.1.2.1, (v3.1.2.2, ((wrap64 (a4 - (wrap64 (0 - v5)))), ((wrap64 (a5 - v5)), (v6, a7)))))))
     else
      (spec_l15Less k ((wrap64 (a6 + 0)), 1000000000000)).bind fun v7 =>
      if a0 = 1 then
       if a4 = 0 then
        some (2, (1, (50, (0, (a4, ((wrap64 (a5 - v5)), (v7, a7)))))))
       else
        some (a0, (v3.1.1, (v3.1.2.1, (v3.1.2.2, (a4, ((wrap64 (a5 - v5)), (v7, a7)))))))
      else
       some (a0, (v3.1.1, (v3.1.2.1, (v3.1.2.2, (a4, ((wrap64 (a5 - v5)), (v7, a7)))))))
    else
     (spec_StepRate k (a1, (a2, a3))).bind fun v8 =>
     (spec_l15Less k (a5, 3)).bind fun v9 =>
     (spec_l15Less k (v2, v9)).bind fun v10 =>
     if a0 = 1 then
      (spec_l15Less k ((wrap64 (a6 + v2)), 1000000000000)).bind fun v11 =>
      if a0 = 1 then
       if (wrap64 (a4 - (wrap64 (v2 - v10)))) = 0 then
        some (2, (1, (50, (0, ((wrap64 (a4 - (wrap64 (v2 - v10)))), ((wrap64 (a5 - v10)), (v11, a7)))))))
       else
        some (a0, (v8.1.1, (v8.1.2.1, (v8.1.2.2, ((wrap64 (a4 - (wrap64 (v2 - v10)))), ((wrap64 (a5 - v10)), (v11, a7)))))))
      else
       some (a0, (v8.1.1, (v8.1.2.1, (v8.1.2.2, ((wrap64 (a4 - (wrap64 (v2 - v10)))), ((wrap64 (a5 - v10)), (v11, a7)))))))
     else
      (spec_l15Less k ((wrap64 (a6 + v2)), 1000000000000)).bind fun v12 =>
      if a0 = 1 then
       if a4 = 0 then
        some (2, (1, (50, (0, (a4, ((wrap64 (a5 - v10)), (v12, a7)))))))
       else
        some (a0, (v8.1.1, (v8.1.2.1, (v8.1.2.2, (a4, ((wrap64 (a5 - v10)), (v12, a7)))))))
      else
       some (a0, (v8.1.1, (v8.1.2.1, (v8.1.2.2, (a4, ((wrap64 (a5 - v10)), (v12, a7)))))))
   else
    if a0 = 2 then
     (spec_Wants k (a0, (a1, (a2, (a3, (a4, (a5, (a6, a7)))))))).bind fun v13 =>
     (spec_l15Less k (a8, v13)).bind fun v14 =>
     if v14 < 0 then
      (spec_StepRate k (a1, (a2, a3))).bind fun v15 =>
      (spec_l15Less k (a5, 3)).bind fun v16 =>
      (spec_l15Less k (0, v16)).bind fun v17 =>
      if a0 = 1 then
       (spec_l15Less k ((wrap64 (a6 + 0)), 1000000000000)).bind fun v18 =>
       if a0 = 1 then
        if (wrap64 (a4 - (wrap64 (0 - v17)))) = 0 then
         some (2, (1, (50, (0, ((wrap64 (a4 - (wrap64 (0 - v17)))), ((wrap64 (a5 - v17)), (v18, a7)))))))
        else
         some (a0, (v15.1.1, (v15.1.2.1, (v15.1.2.2, ((wrap64 (a4 - (wrap64 (0 - v17)))), ((wrap64 (a5 - v17)), (v18, a7)))))))
       else
        some (a0, (v15.1.1, (v15.1.2.1, (v15.1.2.2, ((wrap64 (a4 - (wrap64 (0 - v17)))), ((wrap64 (a5 - v17)), (v18, a7)))))))
      else
       (spec_l15Less k ((wrap64 (a6 + 0)), 1000000000000)).bind fun v19 =>
       if a0 = 1 then
        if a4 = 0 then
         some (2, (1, (50, (0, (a4, ((wrap64 (a5 - v17)), (v19, a7)))))))
        else
         some (a0, (v15.1.1, (v15.1.2.1, (v15.1.2.2, (a4, ((wrap64 (a5 - v17)), (v19, a7)))))))
       else
        some (a0, (v15.1.1, (v15.1.2.1, (v15.1.2.2, (a4, ((wrap64 (a5 - v17)), (v19, a7)))))))
     else
      (spec_StepRate k (a1, (a2, a3))).bind fun v20 =>
      (spec_l15Less k (a5, 3)).bind fun v21 =>
      (spec_l15Less k (v14, v21)).bind fun v22 =>
      if a0 = 1 then
       (spec_l15Less k ((wrap64 (a6 + v14)), 1000000000000)).bind fun v23 =>
       if a0 = 1 then
        if (wrap64 (a4 - (wrap64 (v14 - v22)))) = 0 then
         some (2, (1, (50, (0, ((wrap64 (a4 - (wrap64 (v14 - v22)))), ((wrap64 (a5 - v22)), (v23, a7)))))))
        else
         some (a0, (v20.1.1, (v20.1.2.1, (v20.1.2.2, ((wrap64 (a4 - (wrap64 (v14 - v22)))), ((wrap64 (a5 - v22)), (v23, a7)))))))
       else
        some (a0, (v20.1.1, (v20.1.2.1, (v20.1.2.2, ((wrap64 (a4 - (wrap64 (v14 - v22)))), ((wrap64 (a5 - v22)), (v23, a7)))))))
      else
       (spec_l15Less k ((wrap64 (a6 + v14)), 1000000000000)).bind fun v24 =>
       if a0 = 1 then
        if a4 = 0 then
         some (2, (1, (50, (0, (a4, ((wrap64 (a5 - v22)), (v24, a7)))))))
        else
         some (a0, (v20.1.1, (v20.1.2.1, (v20.1.2.2, (a4, ((wrap64 (a5 - v22)), (v24, a7)))))))
       else
        some (a0, (v20.1.1, (v20.1.2.1, (v20.1.2.2, (a4, ((wrap64 (a5 - v22)), (v24, a7)))))))
    else
     some (a0, (a1, (a2, (a3, (a4, (a5, (a6, a7)))))))
  else
   some (a0, (a1, (a2, (a3, (a4, (a5, (a6, a7)))))))
noncomputable def g_spec_Give : (Int × Int × Int × Int × Int × Int × Int × Int) × Int → Option ((Int × Int × Int × Int × Int × Int × Int × Int)) := spec_Give_ (fun _ => g_spec_PumpOk) (fun _ => g_spec_StepRate) (fun _ => g_spec_Wants) (fun _ => g_spec_l15Less) 0
theorem e_spec_Give : ∀ x b, g_spec_Give x = some b → ∃ k, spec_Give_ (fun _ => g_spec_PumpOk) (fun _ => g_spec_StepRate) (fun _ => g_spec_Wants) (fun _ => g_spec_l15Less) k x = some b := fun x b h => ⟨0, h⟩
/- spec_Allow -/
def con_spec_Allow (f : Nat → (List Int × Int) × Int → Option (Int)) : Con := ⟨[.agg [.sl (.int .i64), .int .i64], .c (.int .i64)], 1, [.v false [.int .i64]], f⟩
def spec_Allow_ (spec_GuardOk : Nat → (List Int × Int) → Option (Bool)) (spec_RoomOf : Nat → (List Int × Int) → Option (Int)) (spec_l15Less : Nat → Int × Int → Option (Int)) (k : Nat) : (List Int × Int) × Int → Option (Int)
  | ((a0, a1), a2) =>
  (spec_GuardOk k (a0, a1)).bind fun v0 =>
  if v0 = true then
   if a1 = 0 then
    if a2 < 0 then
     some 0
    else
     (spec_RoomOf k (a0, a1)).bind fun v1 =>
     (spec_l15Less k (a2, v1)).bind fun v2 =>
     some v2
   else
    some 0
  else
   some 0
noncomputable def g_spec_Allow : (List Int × Int) × Int → Option (Int) := spec_Allow_ (fun _ => g_spec_GuardOk) (fun _ => g_spec_RoomOf) (fun _ => g_spec_l15Less) 0
theorem e_spec_Allow : ∀ x b, g_spec_Allow x = some b → ∃ k, spec_Allow_ (fun _ => g_spec_GuardOk) (fun _ => g_spec_RoomOf) (fun _ => g_spec_l15Less) k x = some b := fun x b h => ⟨0, h⟩
/- spec_l13Both -/
def con_spec_l13Both (f : Nat → Int × Int → Option (Int)) : Con := ⟨[.c (.int .i64), .c (.int .i64)], 1, [.v false [.int .i64]], f⟩
def spec_l13Both_L4 : Nat → Int × Int × Int × Int × Int × Unit → Option (Int)
  | 0, _ => none
  | k + 1, (b0, b1, b2, b3, b4, ()) =>
    if b4 < 4 then
     if b3 = 0 then
      none
     else
      if 2 = 0 then
       none
      else
       if (Int.tmod (wrap64 (Int.tdiv b0 b3)) 2) = 1 then
        spec_l13Both_L4 k (b0, b1, (wrap64 (b2 + b3)), (wrap64 (2 * b3)), (wrap64 (b4 + 1)), ())
       else
        if b3 = 0 then
         none
        else
         if 2 = 0 then
          none
         else
          if (Int.tmod (wrap64 (Int.tdiv b1 b3)) 2) = 1 then
           spec_l13Both_L4 k (b0, b1, (wrap64 (b2 + b3)), (wrap64 (2 * b3)), (wrap64 (b4 + 1)), ())
          else
           spec_l13Both_L4 k (b0, b1, b2, (wrap64 (2 * b3)), (wrap64 (b4 + 1)), ())
    else
     some b2
def spec_l13Both_ (k : Nat) : Int × Int → Option (Int)
  | (a0, a1) =>
  spec_l13Both_L4 k (a0, a1, 0, 1, 0, ())
noncomputable def g_spec_l13Both : Int × Int → Option (Int) := evG (spec_l13Both_ )
theorem e_spec_l13Both : ∀ x b, g_spec_l13Both x = some b → ∃ k, spec_l13Both_  k x = some b := evG_e _
/- spec_Feel -/
def con_spec_Feel (f : Nat → (List Int × Int) × Int × Bool → Option ((List Int × Int))) : Con := ⟨[.agg [.sl (.int .i64), .int .i64], .c (.int .i64), .c (.bool)], 1, [.v true [.own (.int .i64) 3, .int .i64]], f⟩
def spec_Feel_ (spec_GuardOk : Nat → (List Int × Int) → Option (Bool)) (spec_SenseOk : Nat → Int → Option (Bool)) (spec_l13Both : Nat → Int × Int → Option (Int)) (spec_l16Copy : Nat → (List Int × Int) → Option ((List Int × Int))) (k : Nat) : (List Int × Int) × Int × Bool → Option ((List Int × Int))
  | ((a0, a1), a2, a3) =>
  (spec_l16Copy k (a0, a1)).bind fun v0 =>
  (spec_GuardOk k (a0, a1)).bind fun v1 =>
  if v1 = true then
   (spec_SenseOk k a2).bind fun v2 =>
   if v2 = true then
    (spec_l13Both k (a1, a2)).bind fun v3 =>
    if a3 = true then
     some (v0.1, a2)
    else
     some (v0.1, v3)
   else
    some v0
  else
   some v0
noncomputable def g_spec_Feel : (List Int × Int) × Int × Bool → Option ((List Int × Int)) := spec_Feel_ (fun _ => g_spec_GuardOk) (fun _ => g_spec_SenseOk) (fun _ => g_spec_l13Both) (fun _ => g_spec_l16Copy) 0
theorem e_spec_Feel : ∀ x b, g_spec_Feel x = some b → ∃ k, spec_Feel_ (fun _ => g_spec_GuardOk) (fun _ => g_spec_SenseOk) (fun _ => g_spec_l13Both) (fun _ => g_spec_l16Copy) k x = some b := fun x b h => ⟨0, h⟩
/- spec_OrderOk -/
def con_spec_OrderOk (f : Nat → (Int × Int × Int × Int) → Option (Bool)) : Con := ⟨[.agg [.int .i64, .int .i64, .int .i64, .int .i64]], 1, [.v false [.bool]], f⟩
def spec_OrderOk_ (spec_l01In : Nat → Int × Int × Int → Option (Bool)) (k : Nat) : (Int × Int × Int × Int) → Option (Bool)
  | (a0, a1, a2, a3) =>
  if a0 = 1 then
   (spec_l01In k (a2, (1, 1000))).bind fun v0 =>
   if v0 = true then
    (spec_l01In k (a1, (1, 1000))).bind fun v1 =>
    if v1 = true then
     if a1 ≤ (wrap64 (3 * a2)) then
      (spec_l01In k (a3, (1, 5000))).bind fun v2 =>
      some v2
     else
      some false
    else
     some false
   else
    some false
  else
   if a0 = 2 then
    (spec_l01In k (a3, (1, 100))).bind fun v3 =>
    if v3 = true then
     if a1 = 0 then
      some (decide (a2 = 0))
     else
      some false
    else
     some false
   else
    (spec_l01In k (a0, (3, 6))).bind fun v4 =>
    if v4 = true then
     if a1 = 0 then
      if a2 = 0 then
       some (decide (a3 = 0))
      else
       some false
     else
      some false
    else
     some false
noncomputable def g_spec_OrderOk : (Int × Int × Int × Int) → Option (Bool) := spec_OrderOk_ (fun _ => g_spec_l01In) 0
theorem e_spec_OrderOk : ∀ x b, g_spec_OrderOk x = some b → ∃ k, spec_OrderOk_ (fun _ => g_spec_l01In) k x = some b := fun x b h => ⟨0, h⟩
/- spec_Take -/
def con_spec_Take (f : Nat → (Int × Int × Int × Int × Int × Int × Int × Int) × (Int × Int × Int × Int) → Option ((Int × Int × Int × Int × Int × Int × Int × Int) × Bool)) : Con := ⟨[.agg [.int .i64, .int .i64, .int .i64, .int .i64, .int .i64, .int .i64, .int .i64, .int .i64], .agg [.int .i64, .int .i64, .int .i64, .int .i64]], 2, [.v true [.int .i64, .int .i64, .int .i64, .int .i64, .int .i64, .int .i64, .int .i64, .int .i64], .v false [.bool]], f⟩
def spec_Take_ (spec_OrderOk : Nat → (Int × Int × Int × Int) → Option (Bool)) (spec_PumpOk : Nat → (Int × Int × Int × Int × Int × Int × Int × Int) → Option (Bool)) (k : Nat) : (Int × Int × Int × Int × Int × Int × Int × Int) × (Int × Int × Int × Int) → Option ((Int × Int × Int × Int × Int × Int × Int × Int) × Bool)
  | ((a0, a1, a2, a3, a4, a5, a6, a7), (a8, a9, a10, a11)) =>
  (spec_PumpOk k (a0, (a1, (a2, (a3, (a4, (a5, (a6, a7)))))))).bind fun v0 =>
  if v0 = true then
   (spec_OrderOk k (a8, (a9, (a10, a11)))).bind fun v1 =>
   if v1 = true then
    if a8 = 1 then
     if a0 = 0 then
      some ((1, (a9, (a10, (0, (a11, (a5, (a6, a7))))))), true)
     else
      if a0 = 2 then
       some ((1, (a9, (a10, (0, (a11, (a5, (a6, a7))))))), true)
      else
       some ((a0, (a1, (a2, (a3, (a4, (a5, (a6, a7))))))), false)
    else
     if a8 = 2 then
      if a0 = 0 then
       some ((a0, (a1, (a2, (a3, (a4, (a5, (a6, a7))))))), false)
      else
       if a0 = 3 then
        some ((a0, (a1, (a2, (a3, (a4, (a5, (a6, a7))))))), false)
       else
        if 0 < a5 then
         some ((a0, (a1, (a2, (a3, (a4, (a5, (a6, a7))))))), false)
        else
         some ((a0, (a1, (a2, (a3, (a4, (a11, (a6, a7))))))), true)
     else
      if a8 = 3 then
       if a0 = 0 then
        some ((a0, (a1, (a2, (a3, (a4, (a5, (a6, a7))))))), false)
       else
        if a0 = 3 then
         some ((a0, (a1, (a2, (a3, (a4, (a5, (a6, a7))))))), false)
        else
         some ((3, (a1, (a2, (a3, (a4, (a5, (a6, a0))))))), true)
      else
       if a8 = 4 then
        if a0 = 3 then
         some ((a7, (a1, (a2, (a3, (a4, (a5, (a6, 0))))))), true)
        else
         some ((a0, (a1, (a2, (a3, (a4, (a5, (a6, a7))))))), false)
       else
        if a8 = 6 then
         some ((0, (a1, (a2, (a3, (0, (0, (a6, 0))))))), true)
        else
         some ((a0, (a1, (a2, (a3, (a4, (a5, (a6, a7))))))), false)
   else
    some ((a0, (a1, (a2, (a3, (a4, (a5, (a6, a7))))))), false)
  else
   some ((a0, (a1, (a2, (a3, (a4, (a5, (a6, a7))))))), false)
noncomputable def g_spec_Take : (Int × Int × Int × Int × Int × Int × Int × Int) × (Int × Int × Int × Int) → Option ((Int × Int × Int × Int × Int × Int × Int × Int) × Bool) := spec_Take_ (fun _ => g_spec_OrderOk) (fun _ => g_spec_PumpOk) 0
theorem e_spec_Take : ∀ x b, g_spec_Take x = some b → ∃ k, spec_Take_ (fun _ => g_spec_OrderOk) (fun _ => g_spec_PumpOk) k x = some b := fun x b h => ⟨0, h⟩
/- spec_l02Four -/
def con_spec_l02Four (f : Nat → Int → Option (ByteArray)) : Con := ⟨[.c (.int .u32)], 1, [.v false [.str]], f⟩
def spec_l02Four_ (k : Nat) : Int → Option (ByteArray)
  | a0 =>
  if 0 ≤ 24 then
   if 0 ≤ 16 then
    if 0 ≤ 8 then some (bstr [(wr .u8 (Int.fdiv a0 (2 ^ (min (Int.toNat 24) (IntKind.bits .u32))))), (wr .u8 (Int.fdiv a0 (2 ^ (min (Int.toNat 16) (IntKind.bits .u32))))), (wr .u8 (Int.fdiv a0 (2 ^ (min (Int.toNat 8) (IntKind.bits .u32))))), (wr .u8 a0)]) else none
   else
    none
  else
   none
noncomputable def g_spec_l02Four : Int → Option (ByteArray) := spec_l02Four_  0
theorem e_spec_l02Four : ∀ x b, g_spec_l02Four x = some b → ∃ k, spec_l02Four_  k x = some b := fun x b h => ⟨0, h⟩
/- spec_SumMore -/
def con_spec_SumMore (f : Nat → Int × ByteArray → Option (Int)) : Con := ⟨[.c (.int .u32), .c (.str)], 1, [.v false [.int .u32]], f⟩
mutual
def spec_SumMore_L2 : Nat → Int × ByteArray × Int × Unit → Option (Int)
  | 0, _ => none
  | k + 1, (b0, b1, b2, ()) =>
    if b2 < ((ByteArray.size b1 : Nat) : Int) then
     if 0 ≤ b2 then
      if b2 < ((ByteArray.size b1 : Nat) : Int) then spec_SumMore_L6 k ((ixor .u32 b0 (wr .u32 (byt b1 b2))), b1, b2, 0, ()) else none
     else
      none
    else
     some b0
def spec_SumMore_L6 : Nat → Int × ByteArray × Int × Int × Unit → Option (Int)
  | 0, _ => none
  | k + 1, (b0, b1, b2, b3, ()) =>
    if b3 < 8 then
     if 2 = 0 then
      none
     else
      if 2 = 0 then
       none
      else
       if (Int.tmod b0 2) = 1 then
        spec_SumMore_L6 k ((ixor .u32 (wr .u32 (Int.tdiv b0 2)) 3558460437), b1, b2, (wrap64 (b3 + 1)), ())
       else
        spec_SumMore_L6 k ((wr .u32 (Int.tdiv b0 2)), b1, b2, (wrap64 (b3 + 1)), ())
    else
     spec_SumMore_L2 k (b0, b1, (wrap64 (b2 + 1)), ())
end
def spec_SumMore_ (k : Nat) : Int × ByteArray → Option (Int)
  | (a0, a1) =>
  spec_SumMore_L2 k (a0, a1, 0, ())
noncomputable def g_spec_SumMore : Int × ByteArray → Option (Int) := evG (spec_SumMore_ )
theorem e_spec_SumMore : ∀ x b, g_spec_SumMore x = some b → ∃ k, spec_SumMore_  k x = some b := evG_e _
/- spec_SumOf -/
def con_spec_SumOf (f : Nat → ByteArray → Option (Int)) : Con := ⟨[.c (.str)], 1, [.v false [.int .u32]], f⟩
def spec_SumOf_ (spec_SumMore : Nat → Int × ByteArray → Option (Int)) (k : Nat) : ByteArray → Option (Int)
  | a0 =>
  (spec_SumMore k (4294967295, a0)).bind fun v0 =>
  some v0
noncomputable def g_spec_SumOf : ByteArray → Option (Int) := spec_SumOf_ (fun _ => g_spec_SumMore) 0
theorem e_spec_SumOf : ∀ x b, g_spec_SumOf x = some b → ∃ k, spec_SumOf_ (fun _ => g_spec_SumMore) k x = some b := fun x b h => ⟨0, h⟩
/- spec_Sealed -/
def con_spec_Sealed (f : Nat → ByteArray → Option (ByteArray × Bool)) : Con := ⟨[.c (.str)], 2, [.v false [.str], .v false [.bool]], f⟩
def spec_Sealed_ (spec_SumOf : Nat → ByteArray → Option (Int)) (spec_l02Four : Nat → Int → Option (ByteArray)) (k : Nat) : ByteArray → Option (ByteArray × Bool)
  | a0 =>
  if 20000 < ((ByteArray.size a0 : Nat) : Int) then
   some ((⟨#[]⟩ : ByteArray), false)
  else
   (spec_SumOf k a0).bind fun v0 =>
   (spec_l02Four k v0).bind fun v1 =>
   if ((ByteArray.size a0 + ByteArray.size v1 : Nat) : Int) ≤ 9223372036854775807 then some ((a0 ++ v1), true) else none
noncomputable def g_spec_Sealed : ByteArray → Option (ByteArray × Bool) := spec_Sealed_ (fun _ => g_spec_SumOf) (fun _ => g_spec_l02Four) 0
theorem e_spec_Sealed : ∀ x b, g_spec_Sealed x = some b → ∃ k, spec_Sealed_ (fun _ => g_spec_SumOf) (fun _ => g_spec_l02Four) k x = some b := fun x b h => ⟨0, h⟩
/- spec_l01Var -/
def con_spec_l01Var (f : Nat → Int → Option (ByteArray)) : Con := ⟨[.c (.int .i64)], 1, [.v false [.str]], f⟩
def spec_l01Var_L2 : Nat → Int × List Int × Unit → Option (ByteArray)
  | 0, _ => none
  | k + 1, (b0, b1, ()) =>
    if 127 < b0 then
     if 128 = 0 then
      none
     else
      if (((List.length b1 + List.length [(wr .u8 (wrap64 ((Int.tmod b0 128) + 128)))] : Nat) : Int) * ((1 : Nat) : Int)) ≤ 140737488355328 then
       if 128 = 0 then
        none
       else
        spec_l01Var_L2 k ((wrap64 (Int.tdiv b0 128)), (b1 ++ [(wr .u8 (wrap64 ((Int.tmod b0 128) + 128)))]), ())
      else
       none
    else
     if (((List.length b1 + List.length [(wr .u8 b0)] : Nat) : Int) * ((1 : Nat) : Int)) ≤ 140737488355328 then some (bstr (b1 ++ [(wr .u8 b0)])) else none
def spec_l01Var_ (k : Nat) : Int → Option (ByteArray)
  | a0 =>
  spec_l01Var_L2 k (a0, ([] : List Int), ())
noncomputable def g_spec_l01Var : Int → Option (ByteArray) := evG (spec_l01Var_ )
theorem e_spec_l01Var : ∀ x b, g_spec_l01Var x = some b → ∃ k, spec_l01Var_  k x = some b := evG_e _
/- spec_OrderText -/
def con_spec_OrderText (f : Nat → (Int × Int × Int × Int) → Option (ByteArray × Bool)) : Con := ⟨[.agg [.int .i64, .int .i64, .int .i64, .int .i64]], 2, [.v false [.str], .v false [.bool]], f⟩
def spec_OrderText_ (spec_OrderOk : Nat → (Int × Int × Int × Int) → Option (Bool)) (spec_Sealed : Nat → ByteArray → Option (ByteArray × Bool)) (spec_l01Var : Nat → Int → Option (ByteArray)) (k : Nat) : (Int × Int × Int × Int) → Option (ByteArray × Bool)
  | (a0, a1, a2, a3) =>
  (spec_OrderOk k (a0, (a1, (a2, a3)))).bind fun v0 =>
  if v0 = true then
   (spec_l01Var k a1).bind fun v1 =>
   (spec_l01Var k a2).bind fun v2 =>
   (spec_l01Var k a3).bind fun v3 =>
   if ((ByteArray.size (bstr [(wr .u8 a0)]) + ByteArray.size v1 : Nat) : Int) ≤ 9223372036854775807 then
    if ((ByteArray.size ((bstr [(wr .u8 a0)]) ++ v1) + ByteArray.size v2 : Nat) : Int) ≤ 9223372036854775807 then
     if ((ByteArray.size (((bstr [(wr .u8 a0)]) ++ v1) ++ v2) + ByteArray.size v3 : Nat) : Int) ≤ 9223372036854775807 then (spec_Sealed k ((((bstr [(wr .u8 a0)]) ++ v1) ++ v2) ++ v3)).bind fun v4 =>
      some v4 else none
    else
     none
   else
    none
  else
   some ((⟨#[]⟩ : ByteArray), false)
noncomputable def g_spec_OrderText : (Int × Int × Int × Int) → Option (ByteArray × Bool) := spec_OrderText_ (fun _ => g_spec_OrderOk) (fun _ => g_spec_Sealed) (fun _ => g_spec_l01Var) 0
theorem e_spec_OrderText : ∀ x b, g_spec_OrderText x = some b → ∃ k, spec_OrderText_ (fun _ => g_spec_OrderOk) (fun _ => g_spec_Sealed) (fun _ => g_spec_l01Var) k x = some b := fun x b h => ⟨0, h⟩
/- spec_ReadVar -/
def con_spec_ReadVar (f : Nat → ByteArray × Int → Option (Int × Int × Bool)) : Con := ⟨[.c (.str), .c (.int .i64)], 3, [.v false [.int .i64], .v false [.int .i64], .v false [.bool]], f⟩
def spec_ReadVar_L6 (spec_l01In : Nat → Int × Int × Int → Option (Bool)) (spec_l01Var : Nat → Int → Option (ByteArray)) : Nat → ByteArray × Int × Int × Int × Int × Unit → Option (Int × Int × Bool)
  | 0, _ => none
  | k + 1, (b0, b1, b2, b3, b4, ()) =>
    if b4 < ((ByteArray.size b0 : Nat) : Int) then
     if b4 < (wrap64 (b1 + 5)) then
      if 0 ≤ b4 then
       if b4 < ((ByteArray.size b0 : Nat) : Int) then
        if 128 = 0 then
         none
        else
         if 0 ≤ b4 then
          if b4 < ((ByteArray.size b0 : Nat) : Int) then
           if (byt b0 b4) < 128 then
            if 1000000000 < (wrap64 (b2 + (wrap64 ((Int.tmod (wrap64 (byt b0 b4)) 128) * b3)))) then
             some (0, (0, false))
            else
             if 0 ≤ (wrap64 (b4 + 1)) then
              if (wrap64 (b4 + 1)) ≤ ((ByteArray.size b0 : Nat) : Int) then
               if 0 ≤ b1 then
                if b1 ≤ (wrap64 (b4 + 1)) then (spec_l01Var k (wrap64 (b2 + (wrap64 ((Int.tmod (wrap64 (byt b0 b4)) 128) * b3))))).bind fun v0 =>
                 if v0 = (ByteArray.extract b0 (Int.toNat b1) (Int.toNat (wrap64 (b4 + 1)))) then
                  some ((wrap64 (b2 + (wrap64 ((Int.tmod (wrap64 (byt b0 b4)) 128) * b3)))), ((wrap64 (b4 + 1)), true))
                 else
                  some (0, (0, false)) else none
               else
                none
              else
               none
             else
              none
           else
            spec_ReadVar_L6 spec_l01In spec_l01Var k (b0, b1, (wrap64 (b2 + (wrap64 ((Int.tmod (wrap64 (byt b0 b4)) 128) * b3)))), (wrap64 (b3 * 128)), (wrap64 (b4 + 1)), ())
          else
           none
         else
          none
       else
        none
      else
       none
     else
      some (0, (0, false))
    else
     some (0, (0, false))
def spec_ReadVar_ (spec_l01In : Nat → Int × Int × Int → Option (Bool)) (spec_l01Var : Nat → Int → Option (ByteArray)) (k : Nat) : ByteArray × Int → Option (Int × Int × Bool)
  | (a0, a1) =>
  (spec_l01In k (a1, (0, ((ByteArray.size a0 : Nat) : Int)))).bind fun v0 =>
  if v0 = true then
   spec_ReadVar_L6 spec_l01In spec_l01Var k (a0, a1, 0, 1, a1, ())
  else
   some (0, (0, false))
noncomputable def g_spec_ReadVar : ByteArray × Int → Option (Int × Int × Bool) := evG (spec_ReadVar_ (fun _ => g_spec_l01In) (fun _ => g_spec_l01Var))
theorem e_spec_ReadVar : ∀ x b, g_spec_ReadVar x = some b → ∃ k, spec_ReadVar_ (fun _ => g_spec_l01In) (fun _ => g_spec_l01Var) k x = some b := evG_e _
/- spec_l11Var -/
def con_spec_l11Var (f : Nat → (ByteArray × Int × Bool) → Option (Int × (ByteArray × Int × Bool))) : Con := ⟨[.ptr [.str, .int .i64, .bool] 148], 1, [.v false [.int .i64], .box [.str, .int .i64, .bool] 148], f⟩
def spec_l11Var_ (spec_ReadVar : Nat → ByteArray × Int → Option (Int × Int × Bool)) (k : Nat) : (ByteArray × Int × Bool) → Option (Int × (ByteArray × Int × Bool))
  | (a0, a1, a2) =>
  (spec_ReadVar k (a0, a1)).bind fun v0 =>
  if a2 = true then
   some (0, (a0, (a1, true)))
  else
   if v0.2.2 = true then
    some (v0.1, (a0, (v0.2.1, a2)))
   else
    some (0, (a0, (a1, true)))
noncomputable def g_spec_l11Var : (ByteArray × Int × Bool) → Option (Int × (ByteArray × Int × Bool)) := spec_l11Var_ (fun _ => g_spec_ReadVar) 0
theorem e_spec_l11Var : ∀ x b, g_spec_l11Var x = some b → ∃ k, spec_l11Var_ (fun _ => g_spec_ReadVar) k x = some b := fun x b h => ⟨0, h⟩
/- spec_Unsealed -/
def con_spec_Unsealed (f : Nat → ByteArray → Option (ByteArray × Bool)) : Con := ⟨[.c (.str)], 2, [.v false [.str], .v false [.bool]], f⟩
def spec_Unsealed_ (spec_SumOf : Nat → ByteArray → Option (Int)) (spec_l02Four : Nat → Int → Option (ByteArray)) (k : Nat) : ByteArray → Option (ByteArray × Bool)
  | a0 =>
  if (wrap64 (((ByteArray.size a0 : Nat) : Int) - 4)) < 0 then
   some ((⟨#[]⟩ : ByteArray), false)
  else
   if 20000 < (wrap64 (((ByteArray.size a0 : Nat) : Int) - 4)) then
    some ((⟨#[]⟩ : ByteArray), false)
   else
    if 0 ≤ (wrap64 (((ByteArray.size a0 : Nat) : Int) - 4)) then
     if (wrap64 (((ByteArray.size a0 : Nat) : Int) - 4)) ≤ ((ByteArray.size a0 : Nat) : Int) then
      if 0 ≤ (wrap64 (((ByteArray.size a0 : Nat) : Int) - 4)) then
       if (wrap64 (((ByteArray.size a0 : Nat) : Int) - 4)) ≤ ((ByteArray.size a0 : Nat) : Int) then (spec_SumOf k (ByteArray.extract a0 (Int.toNat 0) (Int.toNat (wrap64 (((ByteArray.size a0 : Nat) : Int) - 4))))).bind fun v0 =>
        (spec_l02Four k v0).bind fun v1 =>
        if (ByteArray.extract a0 (Int.toNat (wrap64 (((ByteArray.size a0 : Nat) : Int) - 4))) (Int.toNat ((ByteArray.size a0 : Nat) : Int))) = v1 then
         if 0 ≤ (wrap64 (((ByteArray.size a0 : Nat) : Int) - 4)) then
          if (wrap64 (((ByteArray.size a0 : Nat) : Int) - 4)) ≤ ((ByteArray.size a0 : Nat) : Int) then some ((ByteArray.extract a0 (Int.toNat 0) (Int.toNat (wrap64 (((ByteArray.size a0 : Nat) : Int) - 4)))), true) else none
         else
          none
        else
         some ((⟨#[]⟩ : ByteArray), false) else none
      else
       none
     else
      none
    else
     none
noncomputable def g_spec_Unsealed : ByteArray → Option (ByteArray × Bool) := spec_Unsealed_ (fun _ => g_spec_SumOf) (fun _ => g_spec_l02Four) 0
theorem e_spec_Unsealed : ∀ x b, g_spec_Unsealed x = some b → ∃ k, spec_Unsealed_ (fun _ => g_spec_SumOf) (fun _ => g_spec_l02Four) k x = some b := fun x b h => ⟨0, h⟩
/- spec_ReadOrder -/
def con_spec_ReadOrder (f : Nat → ByteArray → Option ((Int × Int × Int × Int) × Bool)) : Con := ⟨[.c (.str)], 2, [.v true [.int .i64, .int .i64, .int .i64, .int .i64], .v false [.bool]], f⟩
def spec_ReadOrder_ (spec_OrderText : Nat → (Int × Int × Int × Int) → Option (ByteArray × Bool)) (spec_Unsealed : Nat → ByteArray → Option (ByteArray × Bool)) (spec_l11Var : Nat → (ByteArray × Int × Bool) → Option (Int × (ByteArray × Int × Bool))) (k : Nat) : ByteArray → Option ((Int × Int × Int × Int) × Bool)
  | a0 =>
  (spec_Unsealed k a0).bind fun v0 =>
  if v0.2 = true then
   if ((ByteArray.size v0.1 : Nat) : Int) < 1 then
    some ((0, (0, (0, 0))), false)
   else
    if 0 ≤ 0 then
     if 0 < ((ByteArray.size v0.1 : Nat) : Int) then (spec_l11Var k (v0.1, (1, false))).bind fun v1 =>
      (spec_l11Var k v1.2).bind fun v2 =>
      (spec_l11Var k v2.2).bind fun v3 =>
      (spec_OrderText k ((wrap64 (byt v0.1 0)), (v1.1, (v2.1, v3.1)))).bind fun v4 =>
      if v3.2.2.2 = true then
       some ((0, (0, (0, 0))), false)
      else
       if v4.2 = true then
        if v4.1 = a0 then
         some (((wrap64 (byt v0.1 0)), (v1.1, (v2.1, v3.1))), true)
        else
         some ((0, (0, (0, 0))), false)
       else
        some ((0, (0, (0, 0))), false) else none
    else
     none
  else
   some ((0, (0, (0, 0))), false)
noncomputable def g_spec_ReadOrder : ByteArray → Option ((Int × Int × Int × Int) × Bool) := spec_ReadOrder_ (fun _ => g_spec_OrderText) (fun _ => g_spec_Unsealed) (fun _ => g_spec_l11Var) 0
theorem e_spec_ReadOrder : ∀ x b, g_spec_ReadOrder x = some b → ∃ k, spec_ReadOrder_ (fun _ => g_spec_OrderText) (fun _ => g_spec_Unsealed) (fun _ => g_spec_l11Var) k x = some b := fun x b h => ⟨0, h⟩
/- spec_MenuNew -/
def con_spec_MenuNew (f : Nat → Unit → Option ((Int × Bool × Int × Int × ByteArray))) : Con := ⟨[], 1, [.v true [.int .i64, .bool, .int .i64, .int .i64, .str]], f⟩
def spec_MenuNew_ (k : Nat) : Unit → Option ((Int × Bool × Int × Int × ByteArray))
  | () =>
  some (1, (false, (0, (0, (⟨#[]⟩ : ByteArray)))))
noncomputable def g_spec_MenuNew : Unit → Option ((Int × Bool × Int × Int × ByteArray)) := spec_MenuNew_  0
theorem e_spec_MenuNew : ∀ x b, g_spec_MenuNew x = some b → ∃ k, spec_MenuNew_  k x = some b := fun x b h => ⟨0, h⟩
/- spec_l17Number -/
def con_spec_l17Number (f : Nat → ByteArray → Option (Int)) : Con := ⟨[.c (.str)], 1, [.v false [.int .i64]], f⟩
def spec_l17Number_L3 : Nat → ByteArray × Int × Int × Unit → Option (Int)
  | 0, _ => none
  | k + 1, (b0, b1, b2, ()) =>
    if b2 < ((ByteArray.size b0 : Nat) : Int) then
     if 0 ≤ b2 then
      if b2 < ((ByteArray.size b0 : Nat) : Int) then spec_l17Number_L3 k (b0, (wrap64 ((wrap64 (10 * b1)) + (wrap64 (wr .u8 ((byt b0 b2) - 48))))), (wrap64 (b2 + 1)), ()) else none
     else
      none
    else
     some b1
def spec_l17Number_ (k : Nat) : ByteArray → Option (Int)
  | a0 =>
  spec_l17Number_L3 k (a0, 0, 0, ())
noncomputable def g_spec_l17Number : ByteArray → Option (Int) := evG (spec_l17Number_ )
theorem e_spec_l17Number : ∀ x b, g_spec_l17Number x = some b → ∃ k, spec_l17Number_  k x = some b := evG_e _
/- spec_l17Top -/
def con_spec_l17Top (f : Nat → (Int × Bool × Int × Int × ByteArray) × Int → Option ((Int × Bool × Int × Int × ByteArray) × (Int × Int × Int × Int) × Bool)) : Con := ⟨[.agg [.int .i64, .bool, .int .i64, .int .i64, .str], .c (.int .i64)], 3, [.v true [.int .i64, .bool, .int .i64, .int .i64, .str], .v true [.int .i64, .int .i64, .int .i64, .int .i64], .v false [.bool]], f⟩
def spec_l17Top_ (k : Nat) : (Int × Bool × Int × Int × ByteArray) × Int → Option ((Int × Bool × Int × Int × ByteArray) × (Int × Int × Int × Int) × Bool)
  | ((a0, a1, a2, a3, a4), a5) =>
  if a5 = 98 then
   some ((2, (false, (0, (0, (⟨#[]⟩ : ByteArray))))), ((0, (0, (0, 0))), false))
  else
   if a5 = 111 then
    some ((4, (true, (0, (0, (⟨#[]⟩ : ByteArray))))), ((0, (0, (0, 0))), false))
   else
    if a5 = 112 then
     some ((a0, (a1, (a2, (a3, a4)))), ((3, (0, (0, 0))), true))
    else
     if a5 = 103 then
      some ((a0, (a1, (a2, (a3, a4)))), ((4, (0, (0, 0))), true))
     else
      if a5 = 115 then
       some ((a0, (a1, (a2, (a3, a4)))), ((5, (0, (0, 0))), true))
      else
       if a5 = 120 then
        some ((a0, (a1, (a2, (a3, a4)))), ((6, (0, (0, 0))), true))
       else
        some ((a0, (a1, (a2, (a3, a4)))), ((0, (0, (0, 0))), false))
noncomputable def g_spec_l17Top : (Int × Bool × Int × Int × ByteArray) × Int → Option ((Int × Bool × Int × Int × ByteArray) × (Int × Int × Int × Int) × Bool) := spec_l17Top_  0
theorem e_spec_l17Top : ∀ x b, g_spec_l17Top x = some b → ∃ k, spec_l17Top_  k x = some b := fun x b h => ⟨0, h⟩
/- spec_Press -/
def con_spec_Press (f : Nat → (Int × Bool × Int × Int × ByteArray) × Int → Option ((Int × Bool × Int × Int × ByteArray) × (Int × Int × Int × Int) × Bool)) : Con := ⟨[.agg [.int .i64, .bool, .int .i64, .int .i64, .str], .c (.int .i64)], 3, [.v true [.int .i64, .bool, .int .i64, .int .i64, .str], .v true [.int .i64, .int .i64, .int .i64, .int .i64], .v false [.bool]], f⟩
def spec_Press_ (spec_MenuNew : Nat → Unit → Option ((Int × Bool × Int × Int × ByteArray))) (spec_MenuOk : Nat → (Int × Bool × Int × Int × ByteArray) → Option (Bool)) (spec_OrderOk : Nat → (Int × Int × Int × Int) → Option (Bool)) (spec_l17Number : Nat → ByteArray → Option (Int)) (spec_l17Top : Nat → (Int × Bool × Int × Int × ByteArray) × Int → Option ((Int × Bool × Int × Int × ByteArray) × (Int × Int × Int × Int) × Bool)) (k : Nat) : (Int × Bool × Int × Int × ByteArray) × Int → Option ((Int × Bool × Int × Int × ByteArray) × (Int × Int × Int × Int) × Bool)
  | ((a0, a1, a2, a3, a4), a5) =>
  (spec_MenuOk k (a0, (a1, (a2, (a3, a4))))).bind fun v0 =>
  if v0 = true then
   if a0 = 1 then
    (spec_l17Top k ((a0, (a1, (a2, (a3, a4)))), a5)).bind fun v1 =>
    some v1
   else
    if 48 ≤ a5 then
     if a5 ≤ 57 then
      if ((ByteArray.size a4 : Nat) : Int) < 4 then
       if ((ByteArray.size a4 + ByteArray.size (bstr [(wr .u8 a5)]) : Nat) : Int) ≤ 9223372036854775807 then some ((a0, (a1, (a2, (a3, (a4 ++ (bstr [(wr .u8 a5)])))))), ((0, (0, (0, 0))), false)) else none
      else
       some ((a0, (a1, (a2, (a3, a4)))), ((0, (0, (0, 0))), false))
     else
      if a5 = 99 then
       (spec_MenuNew k ()).bind fun v2 =>
       some (v2, ((0, (0, (0, 0))), false))
      else
       if a5 = 10 then
        (spec_l17Number k a4).bind fun v3 =>
        if a0 = 2 then
         some ((3, (a1, (v3, (a3, (⟨#[]⟩ : ByteArray))))), ((0, (0, (0, 0))), false))
        else
         if a0 = 3 then
          some ((4, (a1, (a2, (v3, (⟨#[]⟩ : ByteArray))))), ((0, (0, (0, 0))), false))
         else
          if a1 = true then
           (spec_OrderOk k (2, (0, (0, v3)))).bind fun v4 =>
           if v4 = true then
            (spec_MenuNew k ()).bind fun v5 =>
            some (v5, ((2, (0, (0, v3))), true))
           else
            (spec_MenuNew k ()).bind fun v6 =>
            some (v6, ((0, (0, (0, 0))), false))
          else
           (spec_OrderOk k (1, (a2, (a3, v3)))).bind fun v7 =>
           if v7 = true then
            (spec_MenuNew k ()).bind fun v8 =>
            some (v8, ((1, (a2, (a3, v3))), true))
           else
            (spec_MenuNew k ()).bind fun v9 =>
            some (v9, ((0, (0, (0, 0))), false))
       else
        some ((a0, (a1, (a2, (a3, a4)))), ((0, (0, (0, 0))), false))
    else
     if a5 = 99 then
      (spec_MenuNew k ()).bind fun v10 =>
      some (v10, ((0, (0, (0, 0))), false))
     else
      if a5 = 10 then
       (spec_l17Number k a4).bind fun v11 =>
       if a0 = 2 then
        some ((3, (a1, (v11, (a3, (⟨#[]⟩ : ByteArray))))), ((0, (0, (0, 0))), false))
       else
        if a0 = 3 then
         some ((4, (a1, (a2, (v11, (⟨#[]⟩ : ByteArray))))), ((0, (0, (0, 0))), false))
        else
         if a1 = true then
          (spec_OrderOk k (2, (0, (0, v11)))).bind fun v12 =>
          if v12 = true then
           (spec_MenuNew k ()).bind fun v13 =>
           some (v13, ((2, (0, (0, v11))), true))
          else
           (spec_MenuNew k ()).bind fun v14 =>
           some (v14, ((0, (0, (0, 0))), false))
         else
          (spec_OrderOk k (1, (a2, (a3, v11)))).bind fun v15 =>
          if v15 = true then
           (spec_MenuNew k ()).bind fun v16 =>
           some (v16, ((1, (a2, (a3, v11))), true))
          else
           (spec_MenuNew k ()).bind fun v17 =>
           some (v17, ((0, (0, (0, 0))), false))
      else
       some ((a0, (a1, (a2, (a3, a4)))), ((0, (0, (0, 0))), false))
  else
   some ((a0, (a1, (a2, (a3, a4)))), ((0, (0, (0, 0))), false))
noncomputable def g_spec_Press : (Int × Bool × Int × Int × ByteArray) × Int → Option ((Int × Bool × Int × Int × ByteArray) × (Int × Int × Int × Int) × Bool) := spec_Press_ (fun _ => g_spec_MenuNew) (fun _ => g_spec_MenuOk) (fun _ => g_spec_OrderOk) (fun _ => g_spec_l17Number) (fun _ => g_spec_l17Top) 0
theorem e_spec_Press : ∀ x b, g_spec_Press x = some b → ∃ k, spec_Press_ (fun _ => g_spec_MenuNew) (fun _ => g_spec_MenuOk) (fun _ => g_spec_OrderOk) (fun _ => g_spec_l17Number) (fun _ => g_spec_l17Top) k x = some b := fun x b h => ⟨0, h⟩
/- spec_PressAll -/
def con_spec_PressAll (f : Nat → (Int × Bool × Int × Int × ByteArray) × ByteArray → Option ((Int × Bool × Int × Int × ByteArray) × ((List (Int × (Int × (Int × Int))))))) : Con := ⟨[.agg [.int .i64, .bool, .int .i64, .int .i64, .str], .c (.str)], 2, [.v true [.int .i64, .bool, .int .i64, .int .i64, .str], .v false [.own (.pair (.int .i64) (.pair (.int .i64) (.pair (.int .i64) (.int .i64)))) 101]], f⟩
def spec_PressAll_L3 (spec_Press : Nat → (Int × Bool × Int × Int × ByteArray) × Int → Option ((Int × Bool × Int × Int × ByteArray) × (Int × Int × Int × Int) × Bool)) : Nat → ByteArray × Int × Int × Bool × Int × Int × ByteArray × Int × Bool × Int × Int × ByteArray × (List (Int × (Int × (Int × Int)))) × Unit → Option ((Int × Bool × Int × Int × ByteArray) × ((List (Int × (Int × (Int × Int))))))
  | 0, _ => none
  | k + 1, (b0, b1, b2, b3, b4, b5, b6, b7, b8, b9, b10, b11, b12, ()) =>
    if b1 < ((ByteArray.size b0 : Nat) : Int) then
     if 0 ≤ b1 then
      if b1 < ((ByteArray.size b0 : Nat) : Int) then (spec_Press k ((b2, (b3, (b4, (b5, b6)))), (wrap64 (byt b0 b1)))).bind fun v0 =>
       if v0.2.2 = true then
        if (((List.length b12 + List.length [v0.2.1] : Nat) : Int) * ((32 : Nat) : Int)) ≤ 140737488355328 then spec_PressAll_L3 spec_Press k (b0, (wrap64 (b1 + 1)), v0.1.1, v0.1.2.1, v0.1.2.2.1, v0.1.2.2.2.1, v0.1.2.2.2.2, b7, b8, b9, b10, b11, (b12 ++ [v0.2.1]), ()) else none
       else
        spec_PressAll_L3 spec_Press k (b0, (wrap64 (b1 + 1)), v0.1.1, v0.1.2.1, v0.1.2.2.1, v0.1.2.2.2.1, v0.1.2.2.2.2, b7, b8, b9, b10, b11, b12, ()) else none
     else
      none
    else
     some ((b2, (b3, (b4, (b5, b6)))), b12)
def spec_PressAll_ (spec_Press : Nat → (Int × Bool × Int × Int × ByteArray) × Int → Option ((Int × Bool × Int × Int × ByteArray) × (Int × Int × Int × Int) × Bool)) (k : Nat) : (Int × Bool × Int × Int × ByteArray) × ByteArray → Option ((Int × Bool × Int × Int × ByteArray) × ((List (Int × (Int × (Int × Int))))))
  | ((a0, a1, a2, a3, a4), a5) =>
  spec_PressAll_L3 spec_Press k (a5, 0, a0, a1, a2, a3, a4, 0, false, 0, 0, (⟨#[]⟩ : ByteArray), ([] : List (Int × (Int × (Int × Int)))), ())
noncomputable def g_spec_PressAll : (Int × Bool × Int × Int × ByteArray) × ByteArray → Option ((Int × Bool × Int × Int × ByteArray) × ((List (Int × (Int × (Int × Int)))))) := evG (spec_PressAll_ (fun _ => g_spec_Press))
theorem e_spec_PressAll : ∀ x b, g_spec_PressAll x = some b → ∃ k, spec_PressAll_ (fun _ => g_spec_Press) k x = some b := evG_e _
/- spec_InOk -/
def con_spec_InOk (f : Nat → (Int × ByteArray × ByteArray) → Option (Bool)) : Con := ⟨[.agg [.int .i64, .str, .str]], 1, [.v false [.bool]], f⟩
def spec_InOk_ (spec_SenseOk : Nat → Int → Option (Bool)) (k : Nat) : (Int × ByteArray × ByteArray) → Option (Bool)
  | (a0, a1, a2) =>
  (spec_SenseOk k a0).bind fun v0 =>
  if v0 = true then
   if ((ByteArray.size a1 : Nat) : Int) ≤ 20 then
    some (decide (((ByteArray.size a2 : Nat) : Int) ≤ 40))
   else
    some false
  else
   some false
noncomputable def g_spec_InOk : (Int × ByteArray × ByteArray) → Option (Bool) := spec_InOk_ (fun _ => g_spec_SenseOk) 0
theorem e_spec_InOk : ∀ x b, g_spec_InOk x = some b → ∃ k, spec_InOk_ (fun _ => g_spec_SenseOk) k x = some b := fun x b h => ⟨0, h⟩
/- spec_l18Copy -/
def con_spec_l18Copy (f : Nat → (Int × Int × Int × Int × Int × Int × Int × Int × List Int × Int × Int × Bool × Int × Int × ByteArray × (List (Int × (Int × Int))) × Int) → Option ((Int × Int × Int × Int × Int × Int × Int × Int × List Int × Int × Int × Bool × Int × Int × ByteArray × (List (Int × (Int × Int))) × Int))) : Con := ⟨[.agg [.int .i64, .int .i64, .int .i64, .int .i64, .int .i64, .int .i64, .int .i64, .int .i64, .sl (.int .i64), .int .i64, .int .i64, .bool, .int .i64, .int .i64, .str, .sl (.pair (.int .i64) (.pair (.int .i64) (.int .i64))), .int .i64]], 1, [.v true [.int .i64, .int .i64, .int .i64, .int .i64, .int .i64, .int .i64, .int .i64, .int .i64, .own (.int .i64) 3, .int .i64, .int .i64, .bool, .int .i64, .int .i64, .str, .own (.pair (.int .i64) (.pair (.int .i64) (.int .i64))) 54, .int .i64]], f⟩
def spec_l18Copy_ (spec_l16Copy : Nat → (List Int × Int) → Option ((List Int × Int))) (k : Nat) : (Int × Int × Int × Int × Int × Int × Int × Int × List Int × Int × Int × Bool × Int × Int × ByteArray × (List (Int × (Int × Int))) × Int) → Option ((Int × Int × Int × Int × Int × Int × Int × Int × List Int × Int × Int × Bool × Int × Int × ByteArray × (List (Int × (Int × Int))) × Int))
  | (a0, a1, a2, a3, a4, a5, a6, a7, a8, a9, a10, a11, a12, a13, a14, a15, a16) =>
  (spec_l16Copy k (a8, a9)).bind fun v0 =>
  if (((List.length ([] : List (Int × (Int × Int))) + List.length a15 : Nat) : Int) * ((24 : Nat) : Int)) ≤ 140737488355328 then some (a0, (a1, (a2, (a3, (a4, (a5, (a6, (a7, (v0.1, (v0.2, (a10, (a11, (a12, (a13, (a14, ((([] : List (Int × (Int × Int))) ++ a15), a16)))))))))))))))) else none
noncomputable def g_spec_l18Copy : (Int × Int × Int × Int × Int × Int × Int × Int × List Int × Int × Int × Bool × Int × Int × ByteArray × (List (Int × (Int × Int))) × Int) → Option ((Int × Int × Int × Int × Int × Int × Int × Int × List Int × Int × Int × Bool × Int × Int × ByteArray × (List (Int × (Int × Int))) × Int)) := spec_l18Copy_ (fun _ => g_spec_l16Copy) 0
theorem e_spec_l18Copy : ∀ x b, g_spec_l18Copy x = some b → ∃ k, spec_l18Copy_ (fun _ => g_spec_l16Copy) k x = some b := fun x b h => ⟨0, h⟩
/- spec_TickDevice -/
def con_spec_TickDevice (f : Nat → (Int × Int × Int × Int × Int × Int × Int × Int × List Int × Int × Int × Bool × Int × Int × ByteArray × (List (Int × (Int × Int))) × Int) × (Int × ByteArray × ByteArray) → Option ((Int × Int × Int × Int × Int × Int × Int × Int × List Int × Int × Int × Bool × Int × Int × ByteArray × (List (Int × (Int × Int))) × Int))) : Con := ⟨[.agg [.int .i64, .int .i64, .int .i64, .int .i64, .int .i64, .int .i64, .int .i64, .int .i64, .sl (.int .i64), .int .i64, .int .i64, .bool, .int .i64, .int .i64, .str, .sl (.pair (.int .i64) (.pair (.int .i64) (.int .i64))), .int .i64], .agg [.int .i64, .str, .str]], 1, [.v true [.int .i64, .int .i64, .int .i64, .int .i64, .int .i64, .int .i64, .int .i64, .int .i64, .own (.int .i64) 3, .int .i64, .int .i64, .bool, .int .i64, .int .i64, .str, .own (.pair (.int .i64) (.pair (.int .i64) (.int .i64))) 54, .int .i64]], f⟩
def spec_TickDevice_L13 (spec_Allow : Nat → (List Int × Int) × Int → Option (Int)) (spec_DeviceOk : Nat → (Int × Int × Int × Int × Int × Int × Int × Int × List Int × Int × Int × Bool × Int × Int × ByteArray × (List (Int × (Int × Int))) × Int) → Option (Bool)) (spec_Feel : Nat → (List Int × Int) × Int × Bool → Option ((List Int × Int))) (spec_Give : Nat → (Int × Int × Int × Int × Int × Int × Int × Int) × Int → Option ((Int × Int × Int × Int × Int × Int × Int × Int))) (spec_InOk : Nat → (Int × ByteArray × ByteArray) → Option (Bool)) (spec_Pass : Nat → (List Int × Int) × Int → Option ((List Int × Int))) (spec_PressAll : Nat → (Int × Bool × Int × Int × ByteArray) × ByteArray → Option ((Int × Bool × Int × Int × ByteArray) × ((List (Int × (Int × (Int × Int))))))) (spec_ReadOrder : Nat → ByteArray → Option ((Int × Int × Int × Int) × Bool)) (spec_Take : Nat → (Int × Int × Int × Int × Int × Int × Int × Int) × (Int × Int × Int × Int) → Option ((Int × Int × Int × Int × Int × Int × Int × Int) × Bool)) (spec_Wants : Nat → (Int × Int × Int × Int × Int × Int × Int × Int) → Option (Int)) (spec_l18Copy : Nat → (Int × Int × Int × Int × Int × Int × Int × Int × List Int × Int × Int × Bool × Int × Int × ByteArray × (List (Int × (Int × Int))) × Int) → Option ((Int × Int × Int × Int × Int × Int × Int × Int × List Int × Int × Int × Bool × Int × Int × ByteArray × (List (Int × (Int × Int))) × Int))) : Nat → Bool × Int × List Int × (List (Int × (Int × Int))) × Int × Int × Int × Int × Int × Int × Int × Int × Int × Int × Bool × Int × Int × ByteArray × Int × Int × ByteArray × ByteArray × Int × Int × Int × Int × Int × Int × Int × Int × Int × Int × Bool × Int × Int × ByteArray × Int × Int × Int × Int × Int × Int × Int × Int × Int × Int × Int × Bool × Int × Int × ByteArray × Int × (List (Int × (Int × (Int × Int)))) × List Int × List Int × List Int × (List (Int × (Int × Int))) × Unit → Option ((Int × Int × Int × Int × Int × Int × Int × Int × List Int × Int × Int × Bool × Int × Int × ByteArray × (List (Int × (Int × Int))) × Int))
  | 0, _ => none
  | k + 1, (b0, b1, b2, b3, b4, b5, b6, b7, b8, b9, b10, b11, b12, b13, b14, b15, b16, b17, b18, b19, b20, b21, b22, b23, b24, b25, b26, b27, b28, b29, b30, b31, b32, b33, b34, b35, b36, b37, b38, b39, b40, b41, b42, b43, b44, b45, b46, b47, b48, b49, b50, b51, b52, b53, b54, b55, b56, ()) =>
    if b1 < ((List.length b52 : Nat) : Int) then
     if 0 ≤ b1 then
      if b1 < ((List.length b52 : Nat) : Int) then
       if (List.getD b52 (Int.toNat b1) (0, (0, (0, 0)))).1 = 5 then
        spec_TickDevice_L13 spec_Allow spec_DeviceOk spec_Feel spec_Give spec_InOk spec_Pass spec_PressAll spec_ReadOrder spec_Take spec_Wants spec_l18Copy k (true, (wrap64 (b1 + 1)), b2, b3, b4, b5, b6, b7, b8, b9, b10, b11, b12, b13, b14, b15, b16, b17, b18, b19, b20, b21, b22, b23, b24, b25, b26, b27, b28, b29, b30, b31, b32, b33, b34, b35, b36, b37, b38, b39, b40, b41, b42, b43, b44, b45, b46, b47, b48, b49, b50, b51, b52, b53, b54, b55, b56, ())
       else
        if 0 ≤ b1 then
         if b1 < ((List.length b52 : Nat) : Int) then (spec_Take k ((b37, (b38, (b39, (b40, (b41, (b42, (b43, b44))))))), (List.getD b52 (Int.toNat b1) (0, (0, (0, 0)))))).bind fun v0 =>
          if v0.2 = true then
           spec_TickDevice_L13 spec_Allow spec_DeviceOk spec_Feel spec_Give spec_InOk spec_Pass spec_PressAll spec_ReadOrder spec_Take spec_Wants spec_l18Copy k (b0, (wrap64 (b1 + 1)), b2, b3, b4, b5, b6, b7, b8, b9, b10, b11, b12, b13, b14, b15, b16, b17, b18, b19, b20, b21, b22, b23, b24, b25, b26, b27, b28, b29, b30, b31, b32, b33, b34, b35, b36, v0.1.1, v0.1.2.1, v0.1.2.2.1, v0.1.2.2.2.1, v0.1.2.2.2.2.1, v0.1.2.2.2.2.2.1, v0.1.2.2.2.2.2.2.1, v0.1.2.2.2.2.2.2.2, b45, b46, b47, b48, b49, b50, b51, b52, b53, b54, b55, b56, ())
          else
           spec_TickDevice_L13 spec_Allow spec_DeviceOk spec_Feel spec_Give spec_InOk spec_Pass spec_PressAll spec_ReadOrder spec_Take spec_Wants spec_l18Copy k (b0, (wrap64 (b1 + 1)), b2, b3, b4, b5, b6, b7, b8, b9, b10, b11, b12, b13, b14, b15, b16, b17, b18, b19, b20, b21, b22, b23, b24, b25, b26, b27, b28, b29, b30, b31, b32, b33, b34, b35, b36, v0.1.1, v0.1.2.1, v0.1.2.2.1, v0.1.2.2.2.1, v0.1.2.2.2.2.1, v0.1.2.2.2.2.2.1, v0.1.2.2.2.2.2.2.1, v0.1.2.2.2.2.2.2.2, b45, b46, b47, b48, b49, b50, (wrap64 (b51 + 1)), b52, b53, b54, b55, b56, ()) else none
        else
         none
      else
       none
     else
      none
    else
     (spec_Feel k ((b2, b12), (b19, b0))).bind fun v1 =>
     (spec_Wants k (b37, (b38, (b39, (b40, (b41, (b42, (b43, b44)))))))).bind fun v2 =>
     (spec_Allow k (v1, v2)).bind fun v3 =>
     if v1.2 = 0 then
      (spec_Give k ((b37, (b38, (b39, (b40, (b41, (b42, (b43, b44))))))), v3)).bind fun v4 =>
      (spec_Pass k (v1, v3)).bind fun v5 =>
      if (((List.length b56 + List.length [(v3, (v5.2, v4.1))] : Nat) : Int) * ((24 : Nat) : Int)) ≤ 140737488355328 then some (v4.1, (v4.2.1, (v4.2.2.1, (v4.2.2.2.1, (v4.2.2.2.2.1, (v4.2.2.2.2.2.1, (v4.2.2.2.2.2.2.1, (v4.2.2.2.2.2.2.2, (v5.1, (v5.2, (b46, (b47, (b48, (b49, (b50, ((b56 ++ [(v3, (v5.2, v4.1))]), b51)))))))))))))))) else none
     else
      (spec_Pass k (v1, v3)).bind fun v6 =>
      if (((List.length b56 + List.length [(v3, (v6.2, b37))] : Nat) : Int) * ((24 : Nat) : Int)) ≤ 140737488355328 then some (b37, (b38, (b39, (b40, (b41, (b42, (b43, (b44, (v6.1, (v6.2, (b46, (b47, (b48, (b49, (b50, ((b56 ++ [(v3, (v6.2, b37))]), b51)))))))))))))))) else none
def spec_TickDevice_ (spec_Allow : Nat → (List Int × Int) × Int → Option (Int)) (spec_DeviceOk : Nat → (Int × Int × Int × Int × Int × Int × Int × Int × List Int × Int × Int × Bool × Int × Int × ByteArray × (List (Int × (Int × Int))) × Int) → Option (Bool)) (spec_Feel : Nat → (List Int × Int) × Int × Bool → Option ((List Int × Int))) (spec_Give : Nat → (Int × Int × Int × Int × Int × Int × Int × Int) × Int → Option ((Int × Int × Int × Int × Int × Int × Int × Int))) (spec_InOk : Nat → (Int × ByteArray × ByteArray) → Option (Bool)) (spec_Pass : Nat → (List Int × Int) × Int → Option ((List Int × Int))) (spec_PressAll : Nat → (Int × Bool × Int × Int × ByteArray) × ByteArray → Option ((Int × Bool × Int × Int × ByteArray) × ((List (Int × (Int × (Int × Int))))))) (spec_ReadOrder : Nat → ByteArray → Option ((Int × Int × Int × Int) × Bool)) (spec_Take : Nat → (Int × Int × Int × Int × Int × Int × Int × Int) × (Int × Int × Int × Int) → Option ((Int × Int × Int × Int × Int × Int × Int × Int) × Bool)) (spec_Wants : Nat → (Int × Int × Int × Int × Int × Int × Int × Int) → Option (Int)) (spec_l18Copy : Nat → (Int × Int × Int × Int × Int × Int × Int × Int × List Int × Int × Int × Bool × Int × Int × ByteArray × (List (Int × (Int × Int))) × Int) → Option ((Int × Int × Int × Int × Int × Int × Int × Int × List Int × Int × Int × Bool × Int × Int × ByteArray × (List (Int × (Int × Int))) × Int))) (k : Nat) : (Int × Int × Int × Int × Int × Int × Int × Int × List Int × Int × Int × Bool × Int × Int × ByteArray × (List (Int × (Int × Int))) × Int) × (Int × ByteArray × ByteArray) → Option ((Int × Int × Int × Int × Int × Int × Int × Int × List Int × Int × Int × Bool × Int × Int × ByteArray × (List (Int × (Int × Int))) × Int))
  | ((a0, a1, a2, a3, a4, a5, a6, a7, a8, a9, a10, a11, a12, a13, a14, a15, a16), (a17, a18, a19)) =>
  (spec_l18Copy k (a0, (a1, (a2, (a3, (a4, (a5, (a6, (a7, (a8, (a9, (a10, (a11, (a12, (a13, (a14, (a15, a16))))))))))))))))).bind fun v0 =>
  (spec_DeviceOk k (a0, (a1, (a2, (a3, (a4, (a5, (a6, (a7, (a8, (a9, (a10, (a11, (a12, (a13, (a14, (a15, a16))))))))))))))))).bind fun v1 =>
  if v1 = true then
   (spec_InOk k (a17, (a18, a19))).bind fun v2 =>
   if v2 = true then
    if ((List.length a15 : Nat) : Int) = 200 then
     some v0
    else
     if 999999900 < a16 then
      some v0
     else
      (spec_PressAll k ((a10, (a11, (a12, (a13, a14)))), a18)).bind fun v3 =>
      if a19 = (⟨#[]⟩ : ByteArray) then
       spec_TickDevice_L13 spec_Allow spec_DeviceOk spec_Feel spec_Give spec_InOk spec_Pass spec_PressAll spec_ReadOrder spec_Take spec_Wants spec_l18Copy k (false, 0, a8, a15, a0, a1, a2, a3, a4, a5, a6, a7, a9, a10, a11, a12, a13, a14, a16, a17, a18, a19, 0, 0, 0, 0, 0, 0, 0, 0, 0, 0, false, 0, 0, (⟨#[]⟩ : ByteArray), 0, v0.1, v0.2.1, v0.2.2.1, v0.2.2.2.1, v0.2.2.2.2.1, v0.2.2.2.2.2.1, v0.2.2.2.2.2.2.1, v0.2.2.2.2.2.2.2.1, v0.2.2.2.2.2.2.2.2.2.1, v3.1.1, v3.1.2.1, v3.1.2.2.1, v3.1.2.2.2.1, v3.1.2.2.2.2, v0.2.2.2.2.2.2.2.2.2.2.2.2.2.2.2.2, v3.2, [], [], v0.2.2.2.2.2.2.2.2.1, v0.2.2.2.2.2.2.2.2.2.2.2.2.2.2.2.1, ())
      else
       (spec_ReadOrder k a19).bind fun v4 =>
       if v4.2 = true then
        if (((List.length v3.2 + List.length [v4.1] : Nat) : Int) * ((32 : Nat) : Int)) ≤ 140737488355328 then spec_TickDevice_L13 spec_Allow spec_DeviceOk spec_Feel spec_Give spec_InOk spec_Pass spec_PressAll spec_ReadOrder spec_Take spec_Wants spec_l18Copy k (false, 0, a8, a15, a0, a1, a2, a3, a4, a5, a6, a7, a9, a10, a11, a12, a13, a14, a16, a17, a18, a19, 0, 0, 0, 0, 0, 0, 0, 0, 0, 0, false, 0, 0, (⟨#[]⟩ : ByteArray), 0, v0.1, v0.2.1, v0.2.2.1, v0.2.2.2.1, v0.2.2.2.2.1, v0.2.2.2.2.2.1, v0.2.2.2.2.2.2.1, v0.2.2.2.2.2.2.2.1, v0.2.2.2.2.2.2.2.2.2.1, v3.1.1, v3.1.2.1, v3.1.2.2.1, v3.1.2.2.2.1, v3.1.2.2.2.2, v0.2.2.2.2.2.2.2.2.2.2.2.2.2.2.2.2, (v3.2 ++ [v4.1]), [], [], v0.2.2.2.2.2.2.2.2.1, v0.2.2.2.2.2.2.2.2.2.2.2.2.2.2.2.1, ()) else none
       else
        spec_TickDevice_L13 spec_Allow spec_DeviceOk spec_Feel spec_Give spec_InOk spec_Pass spec_PressAll spec_ReadOrder spec_Take spec_Wants spec_l18Copy k (false, 0, a8, a15, a0, a1, a2, a3, a4, a5, a6, a7, a9, a10, a11, a12, a13, a14, a16, a17, a18, a19, 0, 0, 0, 0, 0, 0, 0, 0, 0, 0, false, 0, 0, (⟨#[]⟩ : ByteArray), 0, v0.1, v0.2.1, v0.2.2.1, v0.2.2.2.1, v0.2.2.2.2.1, v0.2.2.2.2.2.1, v0.2.2.2.2.2.2.1, v0.2.2.2.2.2.2.2.1, v0.2.2.2.2.2.2.2.2.2.1, v3.1.1, v3.1.2.1, v3.1.2.2.1, v3.1.2.2.2.1, v3.1.2.2.2.2, (wrap64 (v0.2.2.2.2.2.2.2.2.2.2.2.2.2.2.2.2 + 1)), v3.2, [], [], v0.2.2.2.2.2.2.2.2.1, v0.2.2.2.2.2.2.2.2.2.2.2.2.2.2.2.1, ())
   else
    some v0
  else
   some v0
noncomputable def g_spec_TickDevice : (Int × Int × Int × Int × Int × Int × Int × Int × List Int × Int × Int × Bool × Int × Int × ByteArray × (List (Int × (Int × Int))) × Int) × (Int × ByteArray × ByteArray) → Option ((Int × Int × Int × Int × Int × Int × Int × Int × List Int × Int × Int × Bool × Int × Int × ByteArray × (List (Int × (Int × Int))) × Int)) := evG (spec_TickDevice_ (fun _ => g_spec_Allow) (fun _ => g_spec_DeviceOk) (fun _ => g_spec_Feel) (fun _ => g_spec_Give) (fun _ => g_spec_InOk) (fun _ => g_spec_Pass) (fun _ => g_spec_PressAll) (fun _ => g_spec_ReadOrder) (fun _ => g_spec_Take) (fun _ => g_spec_Wants) (fun _ => g_spec_l18Copy))
theorem e_spec_TickDevice : ∀ x b, g_spec_TickDevice x = some b → ∃ k, spec_TickDevice_ (fun _ => g_spec_Allow) (fun _ => g_spec_DeviceOk) (fun _ => g_spec_Feel) (fun _ => g_spec_Give) (fun _ => g_spec_InOk) (fun _ => g_spec_Pass) (fun _ => g_spec_PressAll) (fun _ => g_spec_ReadOrder) (fun _ => g_spec_Take) (fun _ => g_spec_Wants) (fun _ => g_spec_l18Copy) k x = some b := evG_e _
/- spec_PumpNew -/
def con_spec_PumpNew (f : Nat → Unit → Option ((Int × Int × Int × Int × Int × Int × Int × Int))) : Con := ⟨[], 1, [.v true [.int .i64, .int .i64, .int .i64, .int .i64, .int .i64, .int .i64, .int .i64, .int .i64]], f⟩
def spec_PumpNew_ (k : Nat) : Unit → Option ((Int × Int × Int × Int × Int × Int × Int × Int))
  | () =>
  some (0, (0, (1, (0, (0, (0, (0, 0)))))))
noncomputable def g_spec_PumpNew : Unit → Option ((Int × Int × Int × Int × Int × Int × Int × Int)) := spec_PumpNew_  0
theorem e_spec_PumpNew : ∀ x b, g_spec_PumpNew x = some b → ∃ k, spec_PumpNew_  k x = some b := fun x b h => ⟨0, h⟩
/- spec_DeviceNew -/
def con_spec_DeviceNew (f : Nat → Unit → Option ((Int × Int × Int × Int × Int × Int × Int × Int × List Int × Int × Int × Bool × Int × Int × ByteArray × (List (Int × (Int × Int))) × Int))) : Con := ⟨[], 1, [.v true [.int .i64, .int .i64, .int .i64, .int .i64, .int .i64, .int .i64, .int .i64, .int .i64, .own (.int .i64) 3, .int .i64, .int .i64, .bool, .int .i64, .int .i64, .str, .own (.pair (.int .i64) (.pair (.int .i64) (.int .i64))) 54, .int .i64]], f⟩
def spec_DeviceNew_ (spec_MenuNew : Nat → Unit → Option ((Int × Bool × Int × Int × ByteArray))) (spec_PumpNew : Nat → Unit → Option ((Int × Int × Int × Int × Int × Int × Int × Int))) (k : Nat) : Unit → Option ((Int × Int × Int × Int × Int × Int × Int × Int × List Int × Int × Int × Bool × Int × Int × ByteArray × (List (Int × (Int × Int))) × Int))
  | () =>
  (spec_PumpNew k ()).bind fun v0 =>
  (spec_MenuNew k ()).bind fun v1 =>
  some (v0.1, (v0.2.1, (v0.2.2.1, (v0.2.2.2.1, (v0.2.2.2.2.1, (v0.2.2.2.2.2.1, (v0.2.2.2.2.2.2.1, (v0.2.2.2.2.2.2.2, (([] : List Int), (0, (v1.1, (v1.2.1, (v1.2.2.1, (v1.2.2.2.1, (v1.2.2.2.2, (([] : List (Int × (Int × Int))), 0))))))))))))))))
noncomputable def g_spec_DeviceNew : Unit → Option ((Int × Int × Int × Int × Int × Int × Int × Int × List Int × Int × Int × Bool × Int × Int × ByteArray × (List (Int × (Int × Int))) × Int)) := spec_DeviceNew_ (fun _ => g_spec_MenuNew) (fun _ => g_spec_PumpNew) 0
theorem e_spec_DeviceNew : ∀ x b, g_spec_DeviceNew x = some b → ∃ k, spec_DeviceNew_ (fun _ => g_spec_MenuNew) (fun _ => g_spec_PumpNew) k x = some b := fun x b h => ⟨0, h⟩
/- spec_RunDevice -/
def con_spec_RunDevice (f : Nat → ((List (Int × (ByteArray × ByteArray)))) → Option ((Int × Int × Int × Int × Int × Int × Int × Int × List Int × Int × Int × Bool × Int × Int × ByteArray × (List (Int × (Int × Int))) × Int) × Bool)) : Con := ⟨[.c (.sl (.pair (.int .i64) (.pair .str .str)))], 2, [.v true [.int .i64, .int .i64, .int .i64, .int .i64, .int .i64, .int .i64, .int .i64, .int .i64, .own (.int .i64) 3, .int .i64, .int .i64, .bool, .int .i64, .int .i64, .str, .own (.pair (.int .i64) (.pair (.int .i64) (.int .i64))) 54, .int .i64], .v false [.bool]], f⟩
mutual
def spec_RunDevice_L3 (spec_DeviceNew : Nat → Unit → Option ((Int × Int × Int × Int × Int × Int × Int × Int × List Int × Int × Int × Bool × Int × Int × ByteArray × (List (Int × (Int × Int))) × Int))) (spec_InOk : Nat → (Int × ByteArray × ByteArray) → Option (Bool)) (spec_TickDevice : Nat → (Int × Int × Int × Int × Int × Int × Int × Int × List Int × Int × Int × Bool × Int × Int × ByteArray × (List (Int × (Int × Int))) × Int) × (Int × ByteArray × ByteArray) → Option ((Int × Int × Int × Int × Int × Int × Int × Int × List Int × Int × Int × Bool × Int × Int × ByteArray × (List (Int × (Int × Int))) × Int))) : Nat → Bool × Int × (List (Int × (ByteArray × ByteArray))) × Int × Int × Int × Int × Int × Int × Int × Int × Int × Int × Bool × Int × Int × ByteArray × Int × List Int × List Int × Unit → Option ((Int × Int × Int × Int × Int × Int × Int × Int × List Int × Int × Int × Bool × Int × Int × ByteArray × (List (Int × (Int × Int))) × Int) × Bool)
  | 0, _ => none
  | k + 1, (b0, b1, b2, b3, b4, b5, b6, b7, b8, b9, b10, b11, b12, b13, b14, b15, b16, b17, b18, b19, ()) =>
    if b1 < ((List.length b2 : Nat) : Int) then
     if b0 = true then
      if 0 ≤ b1 then
       if b1 < ((List.length b2 : Nat) : Int) then (spec_InOk k (List.getD b2 (Int.toNat b1) (0, ((⟨#[]⟩ : ByteArray), (⟨#[]⟩ : ByteArray))))).bind fun v0 =>
        spec_RunDevice_L3 spec_DeviceNew spec_InOk spec_TickDevice k (v0, (wrap64 (b1 + 1)), b2, b3, b4, b5, b6, b7, b8, b9, b10, b11, b12, b13, b14, b15, b16, b17, b18, b19, ()) else none
      else
       none
     else
      if b0 = true then
       (spec_DeviceNew k ()).bind fun v1 =>
       spec_RunDevice_L10 spec_DeviceNew spec_InOk spec_TickDevice k (0, b2, b3, b4, b5, b6, b7, b8, b9, b10, b11, b12, b13, b14, b15, b16, b17, v1.1, v1.2.1, v1.2.2.1, v1.2.2.2.1, v1.2.2.2.2.1, v1.2.2.2.2.2.1, v1.2.2.2.2.2.2.1, v1.2.2.2.2.2.2.2.1, v1.2.2.2.2.2.2.2.2.2.1, v1.2.2.2.2.2.2.2.2.2.2.1, v1.2.2.2.2.2.2.2.2.2.2.2.1, v1.2.2.2.2.2.2.2.2.2.2.2.2.1, v1.2.2.2.2.2.2.2.2.2.2.2.2.2.1, v1.2.2.2.2.2.2.2.2.2.2.2.2.2.2.1, v1.2.2.2.2.2.2.2.2.2.2.2.2.2.2.2.2, b18, b19, v1.2.2.2.2.2.2.2.2.1, v1.2.2.2.2.2.2.2.2.2.2.2.2.2.2.2.1, ())
      else
       some ((0, (0, (0, (0, (0, (0, (0, (0, (([] : List Int), (0, (0, (false, (0, (0, ((⟨#[]⟩ : ByteArray), (([] : List (Int × (Int × Int))), 0)))))))))))))))), false)
    else
     if b0 = true then
      (spec_DeviceNew k ()).bind fun v2 =>
      spec_RunDevice_L10 spec_DeviceNew spec_InOk spec_TickDevice k (0, b2, b3, b4, b5, b6, b7, b8, b9, b10, b11, b12, b13, b14, b15, b16, b17, v2.1, v2.2.1, v2.2.2.1, v2.2.2.2.1, v2.2.2.2.2.1, v2.2.2.2.2.2.1, v2.2.2.2.2.2.2.1, v2.2.2.2.2.2.2.2.1, v2.2.2.2.2.2.2.2.2.2.1, v2.2.2.2.2.2.2.2.2.2.2.1, v2.2.2.2.2.2.2.2.2.2.2.2.1, v2.2.2.2.2.2.2.2.2.2.2.2.2.1, v2.2.2.2.2.2.2.2.2.2.2.2.2.2.1, v2.2.2.2.2.2.2.2.2.2.2.2.2.2.2.1, v2.2.2.2.2.2.2.2.2.2.2.2.2.2.2.2.2, b18, b19, v2.2.2.2.2.2.2.2.2.1, v2.2.2.2.2.2.2.2.2.2.2.2.2.2.2.2.1, ())
     else
      some ((0, (0, (0, (0, (0, (0, (0, (0, (([] : List Int), (0, (0, (false, (0, (0, ((⟨#[]⟩ : ByteArray), (([] : List (Int × (Int × Int))), 0)))))))))))))))), false)
def spec_RunDevice_L10 (spec_DeviceNew : Nat → Unit → Option ((Int × Int × Int × Int × Int × Int × Int × Int × List Int × Int × Int × Bool × Int × Int × ByteArray × (List (Int × (Int × Int))) × Int))) (spec_InOk : Nat → (Int × ByteArray × ByteArray) → Option (Bool)) (spec_TickDevice : Nat → (Int × Int × Int × Int × Int × Int × Int × Int × List Int × Int × Int × Bool × Int × Int × ByteArray × (List (Int × (Int × Int))) × Int) × (Int × ByteArray × ByteArray) → Option ((Int × Int × Int × Int × Int × Int × Int × Int × List Int × Int × Int × Bool × Int × Int × ByteArray × (List (Int × (Int × Int))) × Int))) : Nat → Int × (List (Int × (ByteArray × ByteArray))) × Int × Int × Int × Int × Int × Int × Int × Int × Int × Int × Bool × Int × Int × ByteArray × Int × Int × Int × Int × Int × Int × Int × Int × Int × Int × Int × Bool × Int × Int × ByteArray × Int × List Int × List Int × List Int × (List (Int × (Int × Int))) × Unit → Option ((Int × Int × Int × Int × Int × Int × Int × Int × List Int × Int × Int × Bool × Int × Int × ByteArray × (List (Int × (Int × Int))) × Int) × Bool)
  | 0, _ => none
  | k + 1, (b0, b1, b2, b3, b4, b5, b6, b7, b8, b9, b10, b11, b12, b13, b14, b15, b16, b17, b18, b19, b20, b21, b22, b23, b24, b25, b26, b27, b28, b29, b30, b31, b32, b33, b34, b35, ()) =>
    if b0 < ((List.length b1 : Nat) : Int) then
     if 0 ≤ b0 then
      if b0 < ((List.length b1 : Nat) : Int) then (spec_TickDevice k ((b17, (b18, (b19, (b20, (b21, (b22, (b23, (b24, (b34, (b25, (b26, (b27, (b28, (b29, (b30, (b35, b31)))))))))))))))), (List.getD b1 (Int.toNat b0) (0, ((⟨#[]⟩ : ByteArray), (⟨#[]⟩ : ByteArray)))))).bind fun v0 =>
       spec_RunDevice_L10 spec_DeviceNew spec_InOk spec_TickDevice k ((wrap64 (b0 + 1)), b1, b2, b3, b4, b5, b6, b7, b8, b9, b10, b11, b12, b13, b14, b15, b16, v0.1, v0.2.1, v0.2.2.1, v0.2.2.2.1, v0.2.2.2.2.1, v0.2.2.2.2.2.1, v0.2.2.2.2.2.2.1, v0.2.2.2.2.2.2.2.1, v0.2.2.2.2.2.2.2.2.2.1, v0.2.2.2.2.2.2.2.2.2.2.1, v0.2.2.2.2.2.2.2.2.2.2.2.1, v0.2.2.2.2.2.2.2.2.2.2.2.2.1, v0.2.2.2.2.2.2.2.2.2.2.2.2.2.1, v0.2.2.2.2.2.2.2.2.2.2.2.2.2.2.1, v0.2.2.2.2.2.2.2.2.2.2.2.2.2.2.2.2, b32, b33, v0.2.2.2.2.2.2.2.2.1, v0.2.2.2.2.2.2.2.2.2.2.2.2.2.2.2.1, ()) else none
     else
      none
    else
     some ((b17, (b18, (b19, (b20, (b21, (b22, (b23, (b24, (b34, (b25, (b26, (b27, (b28, (b29, (b30, (b35, b31)))))))))))))))), true)
end
def spec_RunDevice_ (spec_DeviceNew : Nat → Unit → Option ((Int × Int × Int × Int × Int × Int × Int × Int × List Int × Int × Int × Bool × Int × Int × ByteArray × (List (Int × (Int × Int))) × Int))) (spec_InOk : Nat → (Int × ByteArray × ByteArray) → Option (Bool)) (spec_TickDevice : Nat → (Int × Int × Int × Int × Int × Int × Int × Int × List Int × Int × Int × Bool × Int × Int × ByteArray × (List (Int × (Int × Int))) × Int) × (Int × ByteArray × ByteArray) → Option ((Int × Int × Int × Int × Int × Int × Int × Int × List Int × Int × Int × Bool × Int × Int × ByteArray × (List (Int × (Int × Int))) × Int))) (k : Nat) : ((List (Int × (ByteArray × ByteArray)))) → Option ((Int × Int × Int × Int × Int × Int × Int × Int × List Int × Int × Int × Bool × Int × Int × ByteArray × (List (Int × (Int × Int))) × Int) × Bool)
  | a0 =>
  spec_RunDevice_L3 spec_DeviceNew spec_InOk spec_TickDevice k ((decide (((List.length a0 : Nat) : Int) ≤ 150)), 0, a0, 0, 0, 0, 0, 0, 0, 0, 0, 0, 0, false, 0, 0, (⟨#[]⟩ : ByteArray), 0, [], [], ())
noncomputable def g_spec_RunDevice : ((List (Int × (ByteArray × ByteArray)))) → Option ((Int × Int × Int × Int × Int × Int × Int × Int × List Int × Int × Int × Bool × Int × Int × ByteArray × (List (Int × (Int × Int))) × Int) × Bool) := evG (spec_RunDevice_ (fun _ => g_spec_DeviceNew) (fun _ => g_spec_InOk) (fun _ => g_spec_TickDevice))
theorem e_spec_RunDevice : ∀ x b, g_spec_RunDevice x = some b → ∃ k, spec_RunDevice_ (fun _ => g_spec_DeviceNew) (fun _ => g_spec_InOk) (fun _ => g_spec_TickDevice) k x = some b := evG_e _
/- spec_ReadDecimal -/
def con_spec_ReadDecimal (f : Nat → ByteArray → Option (Int × Bool)) : Con := ⟨[.c (.str)], 2, [.v false [.int .i64], .v false [.bool]], f⟩
def spec_ReadDecimal_L5 (spec_Decimal : Nat → Int → Option (ByteArray)) : Nat → ByteArray × Int × Int × Unit → Option (Int × Bool)
  | 0, _ => none
  | k + 1, (b0, b1, b2, ()) =>
    if b2 < ((ByteArray.size b0 : Nat) : Int) then
     if 0 ≤ b2 then
      if b2 < ((ByteArray.size b0 : Nat) : Int) then
       if (byt b0 b2) < 48 then
        some (0, false)
       else
        if 0 ≤ b2 then
         if b2 < ((ByteArray.size b0 : Nat) : Int) then
          if 57 < (byt b0 b2) then
           some (0, false)
          else
           if 0 ≤ b2 then
            if b2 < ((ByteArray.size b0 : Nat) : Int) then spec_ReadDecimal_L5 spec_Decimal k (b0, (wrap64 ((wrap64 ((wrap64 (10 * b1)) + (wrap64 (byt b0 b2)))) - 48)), (wrap64 (b2 + 1)), ()) else none
           else
            none
         else
          none
        else
         none
      else
       none
     else
      none
    else
     if 1000000000 < b1 then
      some (0, false)
     else
      (spec_Decimal k b1).bind fun v0 =>
      if v0 = b0 then
       some (b1, true)
      else
       some (0, false)
def spec_ReadDecimal_ (spec_Decimal : Nat → Int → Option (ByteArray)) (k : Nat) : ByteArray → Option (Int × Bool)
  | a0 =>
  if 10 < ((ByteArray.size a0 : Nat) : Int) then
   some (0, false)
  else
   spec_ReadDecimal_L5 spec_Decimal k (a0, 0, 0, ())
noncomputable def g_spec_ReadDecimal : ByteArray → Option (Int × Bool) := evG (spec_ReadDecimal_ (fun _ => g_spec_Decimal))
theorem e_spec_ReadDecimal : ∀ x b, g_spec_ReadDecimal x = some b → ∃ k, spec_ReadDecimal_ (fun _ => g_spec_Decimal) k x = some b := evG_e _
/- spec_l01Value -/
def con_spec_l01Value (f : Nat → Int → Option (Int)) : Con := ⟨[.c (.int .u8)], 1, [.v false [.int .i64]], f⟩
def spec_l01Value_ (k : Nat) : Int → Option (Int)
  | a0 =>
  if 48 ≤ a0 then
   if a0 ≤ 57 then
    some (wrap64 ((wrap64 a0) - 48))
   else
    if 97 ≤ a0 then
     if a0 ≤ 102 then
      some (wrap64 ((wrap64 ((wrap64 a0) - 97)) + 10))
     else
      some (-1)
    else
     some (-1)
  else
   if 97 ≤ a0 then
    if a0 ≤ 102 then
     some (wrap64 ((wrap64 ((wrap64 a0) - 97)) + 10))
    else
     some (-1)
   else
    some (-1)
noncomputable def g_spec_l01Value : Int → Option (Int) := spec_l01Value_  0
theorem e_spec_l01Value : ∀ x b, g_spec_l01Value x = some b → ∃ k, spec_l01Value_  k x = some b := fun x b h => ⟨0, h⟩
/- spec_Unhex -/
def con_spec_Unhex (f : Nat → ByteArray → Option (ByteArray × Bool)) : Con := ⟨[.c (.str)], 2, [.v false [.str], .v false [.bool]], f⟩
def spec_Unhex_L5 (spec_l01Value : Nat → Int → Option (Int)) : Nat → ByteArray × Int × List Int × Unit → Option (ByteArray × Bool)
  | 0, _ => none
  | k + 1, (b0, b1, b2, ()) =>
    if b1 < ((ByteArray.size b0 : Nat) : Int) then
     if 0 ≤ b1 then
      if b1 < ((ByteArray.size b0 : Nat) : Int) then (spec_l01Value k (byt b0 b1)).bind fun v0 =>
       if 0 ≤ (wrap64 (b1 + 1)) then
        if (wrap64 (b1 + 1)) < ((ByteArray.size b0 : Nat) : Int) then (spec_l01Value k (byt b0 (wrap64 (b1 + 1)))).bind fun v1 =>
         if v0 < 0 then
          some ((⟨#[]⟩ : ByteArray), false)
         else
          if v1 < 0 then
           some ((⟨#[]⟩ : ByteArray), false)
          else
           if (((List.length b2 + List.length [(wr .u8 (wrap64 ((wrap64 (16 * v0)) + v1)))] : Nat) : Int) * ((1 : Nat) : Int)) ≤ 140737488355328 then spec_Unhex_L5 spec_l01Value k (b0, (wrap64 (b1 + 2)), (b2 ++ [(wr .u8 (wrap64 ((wrap64 (16 * v0)) + v1)))]), ()) else none else none
       else
        none else none
     else
      none
    else
     some ((bstr b2), true)
def spec_Unhex_ (spec_l01Value : Nat → Int → Option (Int)) (k : Nat) : ByteArray → Option (ByteArray × Bool)
  | a0 =>
  if 40000 < ((ByteArray.size a0 : Nat) : Int) then
   some ((⟨#[]⟩ : ByteArray), false)
  else
   if 2 = 0 then
    none
   else
    if (Int.tmod ((ByteArray.size a0 : Nat) : Int) 2) = 0 then
     spec_Unhex_L5 spec_l01Value k (a0, 0, ([] : List Int), ())
    else
     some ((⟨#[]⟩ : ByteArray), false)
noncomputable def g_spec_Unhex : ByteArray → Option (ByteArray × Bool) := evG (spec_Unhex_ (fun _ => g_spec_l01Value))
theorem e_spec_Unhex : ∀ x b, g_spec_Unhex x = some b → ∃ k, spec_Unhex_ (fun _ => g_spec_l01Value) k x = some b := evG_e _
/- spec_ReadSense -/
def con_spec_ReadSense (f : Nat → ByteArray → Option (Int × Bool)) : Con := ⟨[.c (.str)], 2, [.v false [.int .i64], .v false [.bool]], f⟩
def spec_ReadSense_L2 (spec_SenseNames : Nat → Int → Option (ByteArray)) : Nat → ByteArray × Int × Unit → Option (Int × Bool)
  | 0, _ => none
  | k + 1, (b0, b1, ()) =>
    if b1 < 16 then
     (spec_SenseNames k b1).bind fun v0 =>
     if v0 = b0 then
      some (b1, true)
     else
      spec_ReadSense_L2 spec_SenseNames k (b0, (wrap64 (b1 + 1)), ())
    else
     some (0, false)
def spec_ReadSense_ (spec_SenseNames : Nat → Int → Option (ByteArray)) (k : Nat) : ByteArray → Option (Int × Bool)
  | a0 =>
  spec_ReadSense_L2 spec_SenseNames k (a0, 0, ())
noncomputable def g_spec_ReadSense : ByteArray → Option (Int × Bool) := evG (spec_ReadSense_ (fun _ => g_spec_SenseNames))
theorem e_spec_ReadSense : ∀ x b, g_spec_ReadSense x = some b → ∃ k, spec_ReadSense_ (fun _ => g_spec_SenseNames) k x = some b := evG_e _
/- spec_l05Lines -/
def con_spec_l05Lines (f : Nat → ByteArray → Option (List ByteArray)) : Con := ⟨[.c (.str)], 1, [.v false [.own .str 9]], f⟩
def spec_l05Lines_L4 : Nat → ByteArray × Int × Int × List ByteArray × Unit → Option (List ByteArray)
  | 0, _ => none
  | k + 1, (b0, b1, b2, b3, ()) =>
    if b2 < ((ByteArray.size b0 : Nat) : Int) then
     if 0 ≤ b2 then
      if b2 < ((ByteArray.size b0 : Nat) : Int) then
       if (byt b0 b2) = 10 then
        if 0 ≤ b2 then
         if b2 ≤ ((ByteArray.size b0 : Nat) : Int) then
          if 0 ≤ b1 then
           if b1 ≤ b2 then
            if (((List.length b3 + List.length [(ByteArray.extract b0 (Int.toNat b1) (Int.toNat b2))] : Nat) : Int) * ((16 : Nat) : Int)) ≤ 140737488355328 then spec_l05Lines_L4 k (b0, (wrap64 (b2 + 1)), (wrap64 (b2 + 1)), (b3 ++ [(ByteArray.extract b0 (Int.toNat b1) (Int.toNat b2))]), ()) else none
           else
            none
          else
           none
         else
          none
        else
         none
       else
        spec_l05Lines_L4 k (b0, b1, (wrap64 (b2 + 1)), b3, ())
      else
       none
     else
      none
    else
     if b1 < ((ByteArray.size b0 : Nat) : Int) then
      if 0 ≤ b1 then
       if b1 ≤ ((ByteArray.size b0 : Nat) : Int) then
        if (((List.length b3 + List.length [(ByteArray.extract b0 (Int.toNat b1) (Int.toNat ((ByteArray.size b0 : Nat) : Int)))] : Nat) : Int) * ((16 : Nat) : Int)) ≤ 140737488355328 then some (b3 ++ [(ByteArray.extract b0 (Int.toNat b1) (Int.toNat ((ByteArray.size b0 : Nat) : Int)))]) else none
       else
        none
      else
       none
     else
      some b3
def spec_l05Lines_ (k : Nat) : ByteArray → Option (List ByteArray)
  | a0 =>
  spec_l05Lines_L4 k (a0, 0, 0, ([] : List ByteArray), ())
noncomputable def g_spec_l05Lines : ByteArray → Option (List ByteArray) := evG (spec_l05Lines_ )
theorem e_spec_l05Lines : ∀ x b, g_spec_l05Lines x = some b → ∃ k, spec_l05Lines_  k x = some b := evG_e _
/- spec_l20Line -/
def con_spec_l20Line (f : Nat → List ByteArray → Option ((Int × ByteArray × ByteArray) × Int)) : Con := ⟨[.c (.sl .str)], 2, [.v true [.int .i64, .str, .str], .v false [.int .i64]], f⟩
def spec_l20Line_L13 (spec_ReadDecimal : Nat → ByteArray → Option (Int × Bool)) (spec_ReadSense : Nat → ByteArray → Option (Int × Bool)) (spec_Unhex : Nat → ByteArray → Option (ByteArray × Bool)) (spec_l01In : Nat → Int × Int × Int → Option (Bool)) : Nat → ByteArray × Int × List ByteArray × Int × ByteArray × ByteArray × Unit → Option ((Int × ByteArray × ByteArray) × Int)
  | 0, _ => none
  | k + 1, (b0, b1, b2, b3, b4, b5, ()) =>
    if 0 ≤ 1 then
     if 1 < ((List.length b2 : Nat) : Int) then
      if b1 < ((ByteArray.size (List.getD b2 (Int.toNat 1) (⟨#[]⟩ : ByteArray)) : Nat) : Int) then
       if 0 ≤ 1 then
        if 1 < ((List.length b2 : Nat) : Int) then
         if 0 ≤ b1 then
          if b1 < ((ByteArray.size (List.getD b2 (Int.toNat 1) (⟨#[]⟩ : ByteArray)) : Nat) : Int) then
           if (byt (List.getD b2 (Int.toNat 1) (⟨#[]⟩ : ByteArray)) b1) = 46 then
            if ((ByteArray.size b0 + ByteArray.size (⟨#[10]⟩ : ByteArray) : Nat) : Int) ≤ 9223372036854775807 then spec_l20Line_L13 spec_ReadDecimal spec_ReadSense spec_Unhex spec_l01In k ((b0 ++ (⟨#[10]⟩ : ByteArray)), (wrap64 (b1 + 1)), b2, b3, b4, b5, ()) else none
           else
            if 0 ≤ 1 then
             if 1 < ((List.length b2 : Nat) : Int) then
              if 0 ≤ (wrap64 (b1 + 1)) then
               if (wrap64 (b1 + 1)) ≤ ((ByteArray.size (List.getD b2 (Int.toNat 1) (⟨#[]⟩ : ByteArray)) : Nat) : Int) then
                if 0 ≤ b1 then
                 if b1 ≤ (wrap64 (b1 + 1)) then
                  if ((ByteArray.size b0 + ByteArray.size (ByteArray.extract (List.getD b2 (Int.toNat 1) (⟨#[]⟩ : ByteArray)) (Int.toNat b1) (Int.toNat (wrap64 (b1 + 1)))) : Nat) : Int) ≤ 9223372036854775807 then spec_l20Line_L13 spec_ReadDecimal spec_ReadSense spec_Unhex spec_l01In k ((b0 ++ (ByteArray.extract (List.getD b2 (Int.toNat 1) (⟨#[]⟩ : ByteArray)) (Int.toNat b1) (Int.toNat (wrap64 (b1 + 1))))), (wrap64 (b1 + 1)), b2, b3, b4, b5, ()) else none
                 else
                  none
                else
                 none
               else
                none
              else
               none
             else
              none
            else
             none
          else
           none
         else
          none
        else
         none
       else
        none
      else
       some ((0, (b0, (⟨#[]⟩ : ByteArray))), 1)
     else
      none
    else
     none
def spec_l20Line_ (spec_ReadDecimal : Nat → ByteArray → Option (Int × Bool)) (spec_ReadSense : Nat → ByteArray → Option (Int × Bool)) (spec_Unhex : Nat → ByteArray → Option (ByteArray × Bool)) (spec_l01In : Nat → Int × Int × Int → Option (Bool)) (k : Nat) : List ByteArray → Option ((Int × ByteArray × ByteArray) × Int)
  | a0 =>
  if 0 ≤ 0 then
   if 0 < ((List.length a0 : Nat) : Int) then
    if (List.getD a0 (Int.toNat 0) (⟨#[]⟩ : ByteArray)) = (⟨#[116, 105, 99, 107]⟩ : ByteArray) then
     if ((List.length a0 : Nat) : Int) = 1 then
      some ((0, ((⟨#[]⟩ : ByteArray), (⟨#[]⟩ : ByteArray))), 1)
     else
      if ((List.length a0 : Nat) : Int) = 2 then
       if 0 ≤ 0 then
        if 0 < ((List.length a0 : Nat) : Int) then
         if (List.getD a0 (Int.toNat 0) (⟨#[]⟩ : ByteArray)) = (⟨#[102, 101, 101, 108]⟩ : ByteArray) then
          if 0 ≤ 1 then
           if 1 < ((List.length a0 : Nat) : Int) then (spec_ReadSense k (List.getD a0 (Int.toNat 1) (⟨#[]⟩ : ByteArray))).bind fun v0 =>
            if v0.2 = true then
             some ((v0.1, ((⟨#[]⟩ : ByteArray), (⟨#[]⟩ : ByteArray))), 1)
            else
             some ((0, ((⟨#[]⟩ : ByteArray), (⟨#[]⟩ : ByteArray))), 0) else none
          else
           none
         else
          if (List.getD a0 (Int.toNat 0) (⟨#[]⟩ : ByteArray)) = (⟨#[107, 101, 121, 115]⟩ : ByteArray) then
           spec_l20Line_L13 spec_ReadDecimal spec_ReadSense spec_Unhex spec_l01In k ((⟨#[]⟩ : ByteArray), 0, a0, 0, (⟨#[]⟩ : ByteArray), (⟨#[]⟩ : ByteArray), ())
          else
           if (List.getD a0 (Int.toNat 0) (⟨#[]⟩ : ByteArray)) = (⟨#[108, 105, 110, 107]⟩ : ByteArray) then
            if 0 ≤ 1 then
             if 1 < ((List.length a0 : Nat) : Int) then (spec_Unhex k (List.getD a0 (Int.toNat 1) (⟨#[]⟩ : ByteArray))).bind fun v1 =>
              if v1.2 = true then
               some ((0, ((⟨#[]⟩ : ByteArray), v1.1)), 1)
              else
               some ((0, ((⟨#[]⟩ : ByteArray), (⟨#[]⟩ : ByteArray))), 0) else none
            else
             none
           else
            if (List.getD a0 (Int.toNat 0) (⟨#[]⟩ : ByteArray)) = (⟨#[109, 97, 110, 121]⟩ : ByteArray) then
             if 0 ≤ 1 then
              if 1 < ((List.length a0 : Nat) : Int) then (spec_ReadDecimal k (List.getD a0 (Int.toNat 1) (⟨#[]⟩ : ByteArray))).bind fun v2 =>
               if v2.2 = true then
                (spec_l01In k (v2.1, (1, 50))).bind fun v3 =>
                if v3 = true then
                 some ((0, ((⟨#[]⟩ : ByteArray), (⟨#[]⟩ : ByteArray))), v2.1)
                else
                 some ((0, ((⟨#[]⟩ : ByteArray), (⟨#[]⟩ : ByteArray))), 0)
               else
                some ((0, ((⟨#[]⟩ : ByteArray), (⟨#[]⟩ : ByteArray))), 0) else none
             else
              none
            else
             some ((0, ((⟨#[]⟩ : ByteArray), (⟨#[]⟩ : ByteArray))), 0)
        else
         none
       else
        none
      else
       some ((0, ((⟨#[]⟩ : ByteArray), (⟨#[]⟩ : ByteArray))), 0)
    else
     if ((List.length a0 : Nat) : Int) = 2 then
      if 0 ≤ 0 then
       if 0 < ((List.length a0 : Nat) : Int) then
        if (List.getD a0 (Int.toNat 0) (⟨#[]⟩ : ByteArray)) = (⟨#[102, 101, 101, 108]⟩ : ByteArray) then
         if 0 ≤ 1 then
          if 1 < ((List.length a0 : Nat) : Int) then (spec_ReadSense k (List.getD a0 (Int.toNat 1) (⟨#[]⟩ : ByteArray))).bind fun v4 =>
           if v4.2 = true then
            some ((v4.1, ((⟨#[]⟩ : ByteArray), (⟨#[]⟩ : ByteArray))), 1)
           else
            some ((0, ((⟨#[]⟩ : ByteArray), (⟨#[]⟩ : ByteArray))), 0) else none
         else
          none
        else
         if (List.getD a0 (Int.toNat 0) (⟨#[]⟩ : ByteArray)) = (⟨#[107, 101, 121, 115]⟩ : ByteArray) then
          spec_l20Line_L13 spec_ReadDecimal spec_ReadSense spec_Unhex spec_l01In k ((⟨#[]⟩ : ByteArray), 0, a0, 0, (⟨#[]⟩ : ByteArray), (⟨#[]⟩ : ByteArray), ())
         else
          if (List.getD a0 (Int.toNat 0) (⟨#[]⟩ : ByteArray)) = (⟨#[108, 105, 110, 107]⟩ : ByteArray) then
           if 0 ≤ 1 then
            if 1 < ((List.length a0 : Nat) : Int) then (spec_Unhex k (List.getD a0 (Int.toNat 1) (⟨#[]⟩ : ByteArray))).bind fun v5 =>
             if v5.2 = true then
              some ((0, ((⟨#[]⟩ : ByteArray), v5.1)), 1)
             else
              some ((0, ((⟨#[]⟩ : ByteArray), (⟨#[]⟩ : ByteArray))), 0) else none
           else
            none
          else
           if (List.getD a0 (Int.toNat 0) (⟨#[]⟩ : ByteArray)) = (⟨#[109, 97, 110, 121]⟩ : ByteArray) then
            if 0 ≤ 1 then
             if 1 < ((List.length a0 : Nat) : Int) then (spec_ReadDecimal k (List.getD a0 (Int.toNat 1) (⟨#[]⟩ : ByteArray))).bind fun v6 =>
              if v6.2 = true then
               (spec_l01In k (v6.1, (1, 50))).bind fun v7 =>
               if v7 = true then
                some ((0, ((⟨#[]⟩ : ByteArray), (⟨#[]⟩ : ByteArray))), v6.1)
               else
                some ((0, ((⟨#[]⟩ : ByteArray), (⟨#[]⟩ : ByteArray))), 0)
              else
               some ((0, ((⟨#[]⟩ : ByteArray), (⟨#[]⟩ : ByteArray))), 0) else none
            else
             none
           else
            some ((0, ((⟨#[]⟩ : ByteArray), (⟨#[]⟩ : ByteArray))), 0)
       else
        none
      else
       none
     else
      some ((0, ((⟨#[]⟩ : ByteArray), (⟨#[]⟩ : ByteArray))), 0)
   else
    none
  else
   none
noncomputable def g_spec_l20Line : List ByteArray → Option ((Int × ByteArray × ByteArray) × Int) := evG (spec_l20Line_ (fun _ => g_spec_ReadDecimal) (fun _ => g_spec_ReadSense) (fun _ => g_spec_Unhex) (fun _ => g_spec_l01In))
theorem e_spec_l20Line : ∀ x b, g_spec_l20Line x = some b → ∃ k, spec_l20Line_ (fun _ => g_spec_ReadDecimal) (fun _ => g_spec_ReadSense) (fun _ => g_spec_Unhex) (fun _ => g_spec_l01In) k x = some b := evG_e _
/- spec_PartsOf -/
def con_spec_PartsOf (f : Nat → ByteArray → Option (List ByteArray × Bool)) : Con := ⟨[.c (.str)], 2, [.v false [.own .str 9], .v false [.bool]], f⟩
def spec_PartsOf_L6 : Nat → ByteArray × Int × Int × List ByteArray × Unit → Option (List ByteArray × Bool)
  | 0, _ => none
  | k + 1, (b0, b1, b2, b3, ()) =>
    if b2 ≤ ((ByteArray.size b0 : Nat) : Int) then
     if b2 < ((ByteArray.size b0 : Nat) : Int) then
      if 0 ≤ b2 then
       if b2 < ((ByteArray.size b0 : Nat) : Int) then
        if (byt b0 b2) < 32 then
         some (([] : List ByteArray), false)
        else
         if 0 ≤ b2 then
          if b2 < ((ByteArray.size b0 : Nat) : Int) then
           if 126 < (byt b0 b2) then
            some (([] : List ByteArray), false)
           else
            if b2 < ((ByteArray.size b0 : Nat) : Int) then
             if 0 ≤ b2 then
              if b2 < ((ByteArray.size b0 : Nat) : Int) then
               if (byt b0 b2) = 32 then
                if b1 < b2 then
                 if 0 ≤ b2 then
                  if b2 ≤ ((ByteArray.size b0 : Nat) : Int) then
                   if 0 ≤ b1 then
                    if b1 ≤ b2 then
                     if (((List.length b3 + List.length [(ByteArray.extract b0 (Int.toNat b1) (Int.toNat b2))] : Nat) : Int) * ((16 : Nat) : Int)) ≤ 140737488355328 then spec_PartsOf_L6 k (b0, (wrap64 (b2 + 1)), (wrap64 (b2 + 1)), (b3 ++ [(ByteArray.extract b0 (Int.toNat b1) (Int.toNat b2))]), ()) else none
                    else
                     none
                   else
                    none
                  else
                   none
                 else
                  none
                else
                 spec_PartsOf_L6 k (b0, (wrap64 (b2 + 1)), (wrap64 (b2 + 1)), b3, ())
               else
                spec_PartsOf_L6 k (b0, b1, (wrap64 (b2 + 1)), b3, ())
              else
               none
             else
              none
            else
             if b1 < b2 then
              if 0 ≤ b2 then
               if b2 ≤ ((ByteArray.size b0 : Nat) : Int) then
                if 0 ≤ b1 then
                 if b1 ≤ b2 then
                  if (((List.length b3 + List.length [(ByteArray.extract b0 (Int.toNat b1) (Int.toNat b2))] : Nat) : Int) * ((16 : Nat) : Int)) ≤ 140737488355328 then spec_PartsOf_L6 k (b0, (wrap64 (b2 + 1)), (wrap64 (b2 + 1)), (b3 ++ [(ByteArray.extract b0 (Int.toNat b1) (Int.toNat b2))]), ()) else none
                 else
                  none
                else
                 none
               else
                none
              else
               none
             else
              spec_PartsOf_L6 k (b0, (wrap64 (b2 + 1)), (wrap64 (b2 + 1)), b3, ())
          else
           none
         else
          none
       else
        none
      else
       none
     else
      if b2 < ((ByteArray.size b0 : Nat) : Int) then
       if 0 ≤ b2 then
        if b2 < ((ByteArray.size b0 : Nat) : Int) then
         if (byt b0 b2) = 32 then
          if b1 < b2 then
           if 0 ≤ b2 then
            if b2 ≤ ((ByteArray.size b0 : Nat) : Int) then
             if 0 ≤ b1 then
              if b1 ≤ b2 then
               if (((List.length b3 + List.length [(ByteArray.extract b0 (Int.toNat b1) (Int.toNat b2))] : Nat) : Int) * ((16 : Nat) : Int)) ≤ 140737488355328 then spec_PartsOf_L6 k (b0, (wrap64 (b2 + 1)), (wrap64 (b2 + 1)), (b3 ++ [(ByteArray.extract b0 (Int.toNat b1) (Int.toNat b2))]), ()) else none
              else
               none
             else
              none
            else
             none
           else
            none
          else
           spec_PartsOf_L6 k (b0, (wrap64 (b2 + 1)), (wrap64 (b2 + 1)), b3, ())
         else
          spec_PartsOf_L6 k (b0, b1, (wrap64 (b2 + 1)), b3, ())
        else
         none
       else
        none
      else
       if b1 < b2 then
        if 0 ≤ b2 then
         if b2 ≤ ((ByteArray.size b0 : Nat) : Int) then
          if 0 ≤ b1 then
           if b1 ≤ b2 then
            if (((List.length b3 + List.length [(ByteArray.extract b0 (Int.toNat b1) (Int.toNat b2))] : Nat) : Int) * ((16 : Nat) : Int)) ≤ 140737488355328 then spec_PartsOf_L6 k (b0, (wrap64 (b2 + 1)), (wrap64 (b2 + 1)), (b3 ++ [(ByteArray.extract b0 (Int.toNat b1) (Int.toNat b2))]), ()) else none
           else
            none
          else
           none
         else
          none
        else
         none
       else
        spec_PartsOf_L6 k (b0, (wrap64 (b2 + 1)), (wrap64 (b2 + 1)), b3, ())
    else
     if 10 < ((List.length b3 : Nat) : Int) then
      some (([] : List ByteArray), false)
     else
      some (b3, true)
def spec_PartsOf_ (k : Nat) : ByteArray → Option (List ByteArray × Bool)
  | a0 =>
  if 600 < ((ByteArray.size a0 : Nat) : Int) then
   some (([] : List ByteArray), false)
  else
   spec_PartsOf_L6 k (a0, 0, 0, ([] : List ByteArray), ())
noncomputable def g_spec_PartsOf : ByteArray → Option (List ByteArray × Bool) := evG (spec_PartsOf_ )
theorem e_spec_PartsOf : ∀ x b, g_spec_PartsOf x = some b → ∃ k, spec_PartsOf_  k x = some b := evG_e _
/- spec_ReadScript -/
def con_spec_ReadScript (f : Nat → ByteArray → Option (((List (Int × (ByteArray × ByteArray)))) × Int)) : Con := ⟨[.c (.str)], 2, [.v false [.own (.pair (.int .i64) (.pair .str .str)) 61], .v false [.int .i64]], f⟩
mutual
def spec_ReadScript_L7 (spec_InOk : Nat → (Int × ByteArray × ByteArray) → Option (Bool)) (spec_PartsOf : Nat → ByteArray → Option (List ByteArray × Bool)) (spec_l05Lines : Nat → ByteArray → Option (List ByteArray)) (spec_l20Line : Nat → List ByteArray → Option ((Int × ByteArray × ByteArray) × Int)) : Nat → Int × (List (Int × (ByteArray × ByteArray))) × List ByteArray × (List (Int × (ByteArray × ByteArray))) × Unit → Option (((List (Int × (ByteArray × ByteArray)))) × Int)
  | 0, _ => none
  | k + 1, (b0, b1, b2, b3, ()) =>
    if b0 < ((List.length b2 : Nat) : Int) then
     if 0 ≤ b0 then
      if b0 < ((List.length b2 : Nat) : Int) then (spec_PartsOf k (List.getD b2 (Int.toNat b0) (⟨#[]⟩ : ByteArray))).bind fun v0 =>
       if v0.2 = true then
        if ((List.length v0.1 : Nat) : Int) = 0 then
         spec_ReadScript_L7 spec_InOk spec_PartsOf spec_l05Lines spec_l20Line k ((wrap64 (b0 + 1)), b1, b2, b3, ())
        else
         if 0 ≤ 0 then
          if 0 < ((List.length v0.1 : Nat) : Int) then
           if 0 ≤ 0 then
            if 0 < ((ByteArray.size (List.getD v0.1 (Int.toNat 0) (⟨#[]⟩ : ByteArray)) : Nat) : Int) then
             if (byt (List.getD v0.1 (Int.toNat 0) (⟨#[]⟩ : ByteArray)) 0) = 35 then
              spec_ReadScript_L7 spec_InOk spec_PartsOf spec_l05Lines spec_l20Line k ((wrap64 (b0 + 1)), b1, b2, b3, ())
             else
              if v0.2 = true then
               (spec_l20Line k v0.1).bind fun v1 =>
               if v1.2 = 0 then
                some (b1, (wrap64 (b0 + 1)))
               else
                (spec_InOk k v1.1).bind fun v2 =>
                if v2 = true then
                 if 150 < (wrap64 (((List.length b3 : Nat) : Int) + v1.2)) then
                  some (b1, (wrap64 (b0 + 1)))
                 else
                  spec_ReadScript_L17 spec_InOk spec_PartsOf spec_l05Lines spec_l20Line k (b0, v1.2, 0, b1, b2, b3, v1.1.1, v1.1.2.1, v1.1.2.2, ())
                else
                 some (b1, (wrap64 (b0 + 1)))
              else
               some (b1, (wrap64 (b0 + 1)))
            else
             none
           else
            none
          else
           none
         else
          none
       else
        if v0.2 = true then
         (spec_l20Line k v0.1).bind fun v3 =>
         if v3.2 = 0 then
          some (b1, (wrap64 (b0 + 1)))
         else
          (spec_InOk k v3.1).bind fun v4 =>
          if v4 = true then
           if 150 < (wrap64 (((List.length b3 : Nat) : Int) + v3.2)) then
            some (b1, (wrap64 (b0 + 1)))
           else
            spec_ReadScript_L17 spec_InOk spec_PartsOf spec_l05Lines spec_l20Line k (b0, v3.2, 0, b1, b2, b3, v3.1.1, v3.1.2.1, v3.1.2.2, ())
          else
           some (b1, (wrap64 (b0 + 1)))
        else
         some (b1, (wrap64 (b0 + 1))) else none
     else
      none
    else
     some (b3, 0)
def spec_ReadScript_L17 (spec_InOk : Nat → (Int × ByteArray × ByteArray) → Option (Bool)) (spec_PartsOf : Nat → ByteArray → Option (List ByteArray × Bool)) (spec_l05Lines : Nat → ByteArray → Option (List ByteArray)) (spec_l20Line : Nat → List ByteArray → Option ((Int × ByteArray × ByteArray) × Int)) : Nat → Int × Int × Int × (List (Int × (ByteArray × ByteArray))) × List ByteArray × (List (Int × (ByteArray × ByteArray))) × Int × ByteArray × ByteArray × Unit → Option (((List (Int × (ByteArray × ByteArray)))) × Int)
  | 0, _ => none
  | k + 1, (b0, b1, b2, b3, b4, b5, b6, b7, b8, ()) =>
    if b2 < b1 then
     if (((List.length b5 + List.length [(b6, (b7, b8))] : Nat) : Int) * ((40 : Nat) : Int)) ≤ 140737488355328 then spec_ReadScript_L17 spec_InOk spec_PartsOf spec_l05Lines spec_l20Line k (b0, b1, (wrap64 (b2 + 1)), b3, b4, (b5 ++ [(b6, (b7, b8))]), b6, b7, b8, ()) else none
    else
     spec_ReadScript_L7 spec_InOk spec_PartsOf spec_l05Lines spec_l20Line k ((wrap64 (b0 + 1)), b3, b4, b5, ())
end
def spec_ReadScript_ (spec_InOk : Nat → (Int × ByteArray × ByteArray) → Option (Bool)) (spec_PartsOf : Nat → ByteArray → Option (List ByteArray × Bool)) (spec_l05Lines : Nat → ByteArray → Option (List ByteArray)) (spec_l20Line : Nat → List ByteArray → Option ((Int × ByteArray × ByteArray) × Int)) (k : Nat) : ByteArray → Option (((List (Int × (ByteArray × ByteArray)))) × Int)
  | a0 =>
  if 3000 < ((ByteArray.size a0 : Nat) : Int) then
   some (([] : List (Int × (ByteArray × ByteArray))), (-1))
  else
   (spec_l05Lines k a0).bind fun v0 =>
   if 120 < ((List.length v0 : Nat) : Int) then
    some (([] : List (Int × (ByteArray × ByteArray))), (-1))
   else
    (spec_l05Lines k a0).bind fun v1 =>
    spec_ReadScript_L7 spec_InOk spec_PartsOf spec_l05Lines spec_l20Line k (0, ([] : List (Int × (ByteArray × ByteArray))), v1, ([] : List (Int × (ByteArray × ByteArray))), ())
noncomputable def g_spec_ReadScript : ByteArray → Option (((List (Int × (ByteArray × ByteArray)))) × Int) := evG (spec_ReadScript_ (fun _ => g_spec_InOk) (fun _ => g_spec_PartsOf) (fun _ => g_spec_l05Lines) (fun _ => g_spec_l20Line))
theorem e_spec_ReadScript : ∀ x b, g_spec_ReadScript x = some b → ∃ k, spec_ReadScript_ (fun _ => g_spec_InOk) (fun _ => g_spec_PartsOf) (fun _ => g_spec_l05Lines) (fun _ => g_spec_l20Line) k x = some b := evG_e _
/- spec_Console -/
def con_spec_Console (f : Nat → ByteArray → Option (ByteArray)) : Con := ⟨[.c (.str)], 1, [.v false [.str]], f⟩
def spec_Console_L7 (spec_Decimal : Nat → Int → Option (ByteArray)) (spec_ReadScript : Nat → ByteArray → Option (((List (Int × (ByteArray × ByteArray)))) × Int)) (spec_RunDevice : Nat → ((List (Int × (ByteArray × ByteArray)))) → Option ((Int × Int × Int × Int × Int × Int × Int × Int × List Int × Int × Int × Bool × Int × Int × ByteArray × (List (Int × (Int × Int))) × Int) × Bool)) (spec_ShowDevice : Nat → (Int × Int × Int × Int × Int × Int × Int × Int × List Int × Int × Int × Bool × Int × Int × ByteArray × (List (Int × (Int × Int))) × Int) → Option (ByteArray)) : Nat → ByteArray × Int × Int × Int × Int × Int × Int × Int × Int × Int × Int × Int × Bool × Int × Int × ByteArray × Int × List Int × (List (Int × (Int × Int))) × Unit → Option (ByteArray)
  | 0, _ => none
  | k + 1, (b0, b1, b2, b3, b4, b5, b6, b7, b8, b9, b10, b11, b12, b13, b14, b15, b16, b17, b18, ()) =>
    if b1 < ((List.length b18 : Nat) : Int) then
     if 0 < b1 then
      if ((ByteArray.size b0 + ByteArray.size (⟨#[32]⟩ : ByteArray) : Nat) : Int) ≤ 9223372036854775807 then
       if 0 ≤ b1 then
        if b1 < ((List.length b18 : Nat) : Int) then (spec_Decimal k (List.getD b18 (Int.toNat b1) (0, (0, 0))).1).bind fun v0 =>
         if ((ByteArray.size (b0 ++ (⟨#[32]⟩ : ByteArray)) + ByteArray.size v0 : Nat) : Int) ≤ 9223372036854775807 then spec_Console_L7 spec_Decimal spec_ReadScript spec_RunDevice spec_ShowDevice k (((b0 ++ (⟨#[32]⟩ : ByteArray)) ++ v0), (wrap64 (b1 + 1)), b2, b3, b4, b5, b6, b7, b8, b9, b10, b11, b12, b13, b14, b15, b16, b17, b18, ()) else none else none
       else
        none
      else
       none
     else
      if 0 ≤ b1 then
       if b1 < ((List.length b18 : Nat) : Int) then (spec_Decimal k (List.getD b18 (Int.toNat b1) (0, (0, 0))).1).bind fun v1 =>
        if ((ByteArray.size b0 + ByteArray.size v1 : Nat) : Int) ≤ 9223372036854775807 then spec_Console_L7 spec_Decimal spec_ReadScript spec_RunDevice spec_ShowDevice k ((b0 ++ v1), (wrap64 (b1 + 1)), b2, b3, b4, b5, b6, b7, b8, b9, b10, b11, b12, b13, b14, b15, b16, b17, b18, ()) else none else none
      else
       none
    else
     if 0 < ((List.length b18 : Nat) : Int) then
      if ((ByteArray.size b0 + ByteArray.size (⟨#[10]⟩ : ByteArray) : Nat) : Int) ≤ 9223372036854775807 then (spec_ShowDevice k (b2, (b3, (b4, (b5, (b6, (b7, (b8, (b9, (b17, (b10, (b11, (b12, (b13, (b14, (b15, (b18, b16))))))))))))))))).bind fun v2 =>
       if ((ByteArray.size (b0 ++ (⟨#[10]⟩ : ByteArray)) + ByteArray.size v2 : Nat) : Int) ≤ 9223372036854775807 then some ((b0 ++ (⟨#[10]⟩ : ByteArray)) ++ v2) else none else none
     else
      (spec_ShowDevice k (b2, (b3, (b4, (b5, (b6, (b7, (b8, (b9, (b17, (b10, (b11, (b12, (b13, (b14, (b15, (b18, b16))))))))))))))))).bind fun v3 =>
      if ((ByteArray.size b0 + ByteArray.size v3 : Nat) : Int) ≤ 9223372036854775807 then some (b0 ++ v3) else none
def spec_Console_ (spec_Decimal : Nat → Int → Option (ByteArray)) (spec_ReadScript : Nat → ByteArray → Option (((List (Int × (ByteArray × ByteArray)))) × Int)) (spec_RunDevice : Nat → ((List (Int × (ByteArray × ByteArray)))) → Option ((Int × Int × Int × Int × Int × Int × Int × Int × List Int × Int × Int × Bool × Int × Int × ByteArray × (List (Int × (Int × Int))) × Int) × Bool)) (spec_ShowDevice : Nat → (Int × Int × Int × Int × Int × Int × Int × Int × List Int × Int × Int × Bool × Int × Int × ByteArray × (List (Int × (Int × Int))) × Int) → Option (ByteArray)) (k : Nat) : ByteArray → Option (ByteArray)
  | a0 =>
  (spec_ReadScript k a0).bind fun v0 =>
  if v0.2 = 0 then
   (spec_RunDevice k v0.1).bind fun v1 =>
   spec_Console_L7 spec_Decimal spec_ReadScript spec_RunDevice spec_ShowDevice k ((⟨#[]⟩ : ByteArray), 0, v1.1.1, v1.1.2.1, v1.1.2.2.1, v1.1.2.2.2.1, v1.1.2.2.2.2.1, v1.1.2.2.2.2.2.1, v1.1.2.2.2.2.2.2.1, v1.1.2.2.2.2.2.2.2.1, v1.1.2.2.2.2.2.2.2.2.2.1, v1.1.2.2.2.2.2.2.2.2.2.2.1, v1.1.2.2.2.2.2.2.2.2.2.2.2.1, v1.1.2.2.2.2.2.2.2.2.2.2.2.2.1, v1.1.2.2.2.2.2.2.2.2.2.2.2.2.2.1, v1.1.2.2.2.2.2.2.2.2.2.2.2.2.2.2.1, v1.1.2.2.2.2.2.2.2.2.2.2.2.2.2.2.2.2, v1.1.2.2.2.2.2.2.2.2.1, v1.1.2.2.2.2.2.2.2.2.2.2.2.2.2.2.2.1, ())
  else
   (spec_Decimal k v0.2).bind fun v2 =>
   if ((ByteArray.size (⟨#[102, 97, 117, 108, 116, 32]⟩ : ByteArray) + ByteArray.size v2 : Nat) : Int) ≤ 9223372036854775807 then
    if ((ByteArray.size ((⟨#[102, 97, 117, 108, 116, 32]⟩ : ByteArray) ++ v2) + ByteArray.size (⟨#[10]⟩ : ByteArray) : Nat) : Int) ≤ 9223372036854775807 then some (((⟨#[102, 97, 117, 108, 116, 32]⟩ : ByteArray) ++ v2) ++ (⟨#[10]⟩ : ByteArray)) else none
   else
    none
noncomputable def g_spec_Console : ByteArray → Option (ByteArray) := evG (spec_Console_ (fun _ => g_spec_Decimal) (fun _ => g_spec_ReadScript) (fun _ => g_spec_RunDevice) (fun _ => g_spec_ShowDevice))
theorem e_spec_Console : ∀ x b, g_spec_Console x = some b → ∃ k, spec_Console_ (fun _ => g_spec_Decimal) (fun _ => g_spec_ReadScript) (fun _ => g_spec_RunDevice) (fun _ => g_spec_ShowDevice) k x = some b := evG_e _
/- laws_begins -/
def con_laws_begins (f : Nat → ByteArray × ByteArray → Option (Bool)) : Con := ⟨[.c (.str), .c (.str)], 1, [.v false [.bool]], f⟩
def laws_begins_ (k : Nat) : ByteArray × ByteArray → Option (Bool)
  | (a0, a1) =>
  if ((ByteArray.size a0 : Nat) : Int) ≤ ((ByteArray.size a1 : Nat) : Int) then
   if 0 ≤ ((ByteArray.size a0 : Nat) : Int) then
    if ((ByteArray.size a0 : Nat) : Int) ≤ ((ByteArray.size a1 : Nat) : Int) then some (decide ((ByteArray.extract a1 (Int.toNat 0) (Int.toNat ((ByteArray.size a0 : Nat) : Int))) = a0)) else none
   else
    none
  else
   some false
noncomputable def g_laws_begins : ByteArray × ByteArray → Option (Bool) := laws_begins_  0
theorem e_laws_begins : ∀ x b, g_laws_begins x = some b → ∃ k, laws_begins_  k x = some b := fun x b h => ⟨0, h⟩
/- spec_l01Long -/
def con_spec_l01Long (f : Nat → Int × Int → Option (ByteArray)) : Con := ⟨[.c (.int .i64), .c (.int .u8)], 1, [.v false [.str]], f⟩
def spec_l01Long_L3 : Nat → Int × Int × Int × List Int × Unit → Option (ByteArray)
  | 0, _ => none
  | k + 1, (b0, b1, b2, b3, ()) =>
    if b2 < b0 then
     if 0 ≤ b2 then
      if b2 < ((List.length b3 : Nat) : Int) then spec_l01Long_L3 k (b0, b1, (wrap64 (b2 + 1)), (List.set b3 (Int.toNat b2) b1), ()) else none
     else
      none
    else
     some (bstr b3)
def spec_l01Long_ (k : Nat) : Int × Int → Option (ByteArray)
  | (a0, a1) =>
  if a0 = a0 then
   if 0 ≤ a0 then
    if (a0 * ((1 : Nat) : Int)) ≤ 140737488355328 then spec_l01Long_L3 k (a0, a1, 0, (List.replicate (Int.toNat a0) 0), ()) else none
   else
    none
  else
   none
noncomputable def g_spec_l01Long : Int × Int → Option (ByteArray) := evG (spec_l01Long_ )
theorem e_spec_l01Long : ∀ x b, g_spec_l01Long x = some b → ∃ k, spec_l01Long_  k x = some b := evG_e _
/- spec_l01Pick -/
def con_spec_l01Pick (f : Nat → (List Int × Int × Int) × List ByteArray → Option (ByteArray × (Unit × Int × Int))) : Con := ⟨[.ptr [.sl (.int .u8), .int .i64, .int .i64] 72, .c (.sl .str)], 1, [.v false [.str], .box [.keep, .int .i64, .int .i64] 72], f⟩
def spec_l01Pick_ (spec_l01Below : Nat → (List Int × Int × Int) × Int → Option (Int × (Unit × Int × Int))) (k : Nat) : (List Int × Int × Int) × List ByteArray → Option (ByteArray × (Unit × Int × Int))
  | ((a0, a1, a2), a3) =>
  (spec_l01Below k ((a0, (a1, a2)), ((List.length a3 : Nat) : Int))).bind fun v0 =>
  if 0 ≤ v0.1 then
   if v0.1 < ((List.length a3 : Nat) : Int) then some ((List.getD a3 (Int.toNat v0.1) (⟨#[]⟩ : ByteArray)), ((), v0.2.2)) else none
  else
   none
noncomputable def g_spec_l01Pick : (List Int × Int × Int) × List ByteArray → Option (ByteArray × (Unit × Int × Int)) := spec_l01Pick_ (fun _ => g_spec_l01Below) 0
theorem e_spec_l01Pick : ∀ x b, g_spec_l01Pick x = some b → ∃ k, spec_l01Pick_ (fun _ => g_spec_l01Below) k x = some b := fun x b h => ⟨0, h⟩
/- spec_l01Once -/
def con_spec_l01Once (f : Nat → (List Int × Int × Int) × Int → Option (Bool × (Unit × Int × Int))) : Con := ⟨[.ptr [.sl (.int .u8), .int .i64, .int .i64] 72, .c (.int .i64)], 1, [.v false [.bool], .box [.keep, .int .i64, .int .i64] 72], f⟩
def spec_l01Once_ (spec_l01Below : Nat → (List Int × Int × Int) × Int → Option (Int × (Unit × Int × Int))) (k : Nat) : (List Int × Int × Int) × Int → Option (Bool × (Unit × Int × Int))
  | ((a0, a1, a2), a3) =>
  (spec_l01Below k ((a0, (a1, a2)), a3)).bind fun v0 =>
  some ((decide (v0.1 = 0)), ((), v0.2.2))
noncomputable def g_spec_l01Once : (List Int × Int × Int) × Int → Option (Bool × (Unit × Int × Int)) := spec_l01Once_ (fun _ => g_spec_l01Below) 0
theorem e_spec_l01Once : ∀ x b, g_spec_l01Once x = some b → ∃ k, spec_l01Once_ (fun _ => g_spec_l01Below) k x = some b := fun x b h => ⟨0, h⟩
/- spec_Hex -/
def con_spec_Hex (f : Nat → ByteArray → Option (ByteArray × Bool)) : Con := ⟨[.c (.str)], 2, [.v false [.str], .v false [.bool]], f⟩
def spec_Hex_L5 (spec_l01Figure : Nat → Int → Option (Int)) : Nat → ByteArray × Int × List Int × Unit → Option (ByteArray × Bool)
  | 0, _ => none
  | k + 1, (b0, b1, b2, ()) =>
    if b1 < ((ByteArray.size b0 : Nat) : Int) then
     if 0 ≤ b1 then
      if b1 < ((ByteArray.size b0 : Nat) : Int) then
       if 16 = 0 then
        none
       else
        if 0 ≤ b1 then
         if b1 < ((ByteArray.size b0 : Nat) : Int) then
          if 16 = 0 then
           none
          else
           (spec_l01Figure k (wrap64 (Int.tdiv (wrap64 (byt b0 b1)) 16))).bind fun v0 =>
           (spec_l01Figure k (Int.tmod (wrap64 (byt b0 b1)) 16)).bind fun v1 =>
           if (((List.length b2 + List.length [v0, v1] : Nat) : Int) * ((1 : Nat) : Int)) ≤ 140737488355328 then spec_Hex_L5 spec_l01Figure k (b0, (wrap64 (b1 + 1)), (b2 ++ [v0, v1]), ()) else none
         else
          none
        else
         none
      else
       none
     else
      none
    else
     some ((bstr b2), true)
def spec_Hex_ (spec_l01Figure : Nat → Int → Option (Int)) (k : Nat) : ByteArray → Option (ByteArray × Bool)
  | a0 =>
  if 20000 < ((ByteArray.size a0 : Nat) : Int) then
   some ((⟨#[]⟩ : ByteArray), false)
  else
   spec_Hex_L5 spec_l01Figure k (a0, 0, ([] : List Int), ())
noncomputable def g_spec_Hex : ByteArray → Option (ByteArray × Bool) := evG (spec_Hex_ (fun _ => g_spec_l01Figure))
theorem e_spec_Hex : ∀ x b, g_spec_Hex x = some b → ∃ k, spec_Hex_ (fun _ => g_spec_l01Figure) k x = some b := evG_e _
/- spec_l01PickInt -/
def con_spec_l01PickInt (f : Nat → (List Int × Int × Int) × List Int → Option (Int × (Unit × Int × Int))) : Con := ⟨[.ptr [.sl (.int .u8), .int .i64, .int .i64] 72, .c (.sl (.int .i64))], 1, [.v false [.int .i64], .box [.keep, .int .i64, .int .i64] 72], f⟩
def spec_l01PickInt_ (spec_l01Below : Nat → (List Int × Int × Int) × Int → Option (Int × (Unit × Int × Int))) (k : Nat) : (List Int × Int × Int) × List Int → Option (Int × (Unit × Int × Int))
  | ((a0, a1, a2), a3) =>
  (spec_l01Below k ((a0, (a1, a2)), ((List.length a3 : Nat) : Int))).bind fun v0 =>
  if 0 ≤ v0.1 then
   if v0.1 < ((List.length a3 : Nat) : Int) then some ((List.getD a3 (Int.toNat v0.1) 0), ((), v0.2.2)) else none
  else
   none
noncomputable def g_spec_l01PickInt : (List Int × Int × Int) × List Int → Option (Int × (Unit × Int × Int)) := spec_l01PickInt_ (fun _ => g_spec_l01Below) 0
theorem e_spec_l01PickInt : ∀ x b, g_spec_l01PickInt x = some b → ∃ k, spec_l01PickInt_ (fun _ => g_spec_l01Below) k x = some b := fun x b h => ⟨0, h⟩
/- spec_l14Order -/
def con_spec_l14Order (f : Nat → (List Int × Int × Int) → Option ((Int × Int × Int × Int) × (Unit × Int × Int))) : Con := ⟨[.ptr [.sl (.int .u8), .int .i64, .int .i64] 72], 1, [.v true [.int .i64, .int .i64, .int .i64, .int .i64], .box [.keep, .int .i64, .int .i64] 72], f⟩
def spec_l14Order_ (spec_l01Below : Nat → (List Int × Int × Int) × Int → Option (Int × (Unit × Int × Int))) (spec_l01PickInt : Nat → (List Int × Int × Int) × List Int → Option (Int × (Unit × Int × Int))) (k : Nat) : (List Int × Int × Int) → Option ((Int × Int × Int × Int) × (Unit × Int × Int))
  | (a0, a1, a2) =>
  (spec_l01PickInt k ((a0, (a1, a2)), [1, 1, 1, 2, 2, 3, 4, 5, 6])).bind fun v0 =>
  if v0.1 = 1 then
   (spec_l01Below k ((a0, v0.2.2), 9)).bind fun v1 =>
   (spec_l01Below k ((a0, v1.2.2), (wrap64 (3 * (wrap64 (1 + v1.1)))))).bind fun v2 =>
   (spec_l01Below k ((a0, v2.2.2), 60)).bind fun v3 =>
   some ((v0.1, ((wrap64 (1 + v2.1)), ((wrap64 (1 + v1.1)), (wrap64 (1 + v3.1))))), ((), v3.2.2))
  else
   if v0.1 = 2 then
    (spec_l01Below k ((a0, v0.2.2), 40)).bind fun v4 =>
    some ((v0.1, (0, (0, (wrap64 (1 + v4.1))))), ((), v4.2.2))
   else
    some ((v0.1, (0, (0, 0))), ((), v0.2.2))
noncomputable def g_spec_l14Order : (List Int × Int × Int) → Option ((Int × Int × Int × Int) × (Unit × Int × Int)) := spec_l14Order_ (fun _ => g_spec_l01Below) (fun _ => g_spec_l01PickInt) 0
theorem e_spec_l14Order : ∀ x b, g_spec_l14Order x = some b → ∃ k, spec_l14Order_ (fun _ => g_spec_l01Below) (fun _ => g_spec_l01PickInt) k x = some b := fun x b h => ⟨0, h⟩
/- spec_l20Show -/
def con_spec_l20Show (f : Nat → (List Int × Int × Int) → Option (ByteArray × (Unit × Int × Int))) : Con := ⟨[.ptr [.sl (.int .u8), .int .i64, .int .i64] 72], 1, [.v false [.str], .box [.keep, .int .i64, .int .i64] 72], f⟩
def spec_l20Show_ (spec_Decimal : Nat → Int → Option (ByteArray)) (spec_Hex : Nat → ByteArray → Option (ByteArray × Bool)) (spec_OrderText : Nat → (Int × Int × Int × Int) → Option (ByteArray × Bool)) (spec_SenseNames : Nat → Int → Option (ByteArray)) (spec_l01Below : Nat → (List Int × Int × Int) × Int → Option (Int × (Unit × Int × Int))) (spec_l01Pick : Nat → (List Int × Int × Int) × List ByteArray → Option (ByteArray × (Unit × Int × Int))) (spec_l14Order : Nat → (List Int × Int × Int) → Option ((Int × Int × Int × Int) × (Unit × Int × Int))) (k : Nat) : (List Int × Int × Int) → Option (ByteArray × (Unit × Int × Int))
  | (a0, a1, a2) =>
  (spec_l01Below k ((a0, (a1, a2)), 8)).bind fun v0 =>
  if v0.1 = 0 then
   (spec_l01Below k ((a0, v0.2.2), 16)).bind fun v1 =>
   (spec_SenseNames k v1.1).bind fun v2 =>
   if ((ByteArray.size (⟨#[102, 101, 101, 108, 32]⟩ : ByteArray) + ByteArray.size v2 : Nat) : Int) ≤ 9223372036854775807 then some (((⟨#[102, 101, 101, 108, 32]⟩ : ByteArray) ++ v2), ((), v1.2.2)) else none
  else
   if v0.1 = 1 then
    if v0.1 = 1 then
     (spec_l01Pick k ((a0, v0.2.2), [(⟨#[98, 50, 46, 49, 46, 51, 48, 46]⟩ : ByteArray), (⟨#[111, 57, 46]⟩ : ByteArray), (⟨#[112]⟩ : ByteArray), (⟨#[103]⟩ : ByteArray), (⟨#[115]⟩ : ByteArray), (⟨#[120]⟩ : ByteArray), (⟨#[98, 57, 46, 51, 46, 53, 48, 46]⟩ : ByteArray), (⟨#[115, 103]⟩ : ByteArray)])).bind fun v3 =>
     if ((ByteArray.size (⟨#[107, 101, 121, 115, 32]⟩ : ByteArray) + ByteArray.size v3.1 : Nat) : Int) ≤ 9223372036854775807 then some (((⟨#[107, 101, 121, 115, 32]⟩ : ByteArray) ++ v3.1), ((), v3.2.2)) else none
    else
     if v0.1 = 3 then
      (spec_l14Order k (a0, v0.2.2)).bind fun v4 =>
      (spec_OrderText k v4.1).bind fun v5 =>
      (spec_Hex k v5.1).bind fun v6 =>
      if ((ByteArray.size (⟨#[108, 105, 110, 107, 32]⟩ : ByteArray) + ByteArray.size v6.1 : Nat) : Int) ≤ 9223372036854775807 then some (((⟨#[108, 105, 110, 107, 32]⟩ : ByteArray) ++ v6.1), ((), v4.2.2)) else none
     else
      if v0.1 = 4 then
       if v0.1 = 4 then
        (spec_l01Below k ((a0, v0.2.2), 9)).bind fun v7 =>
        (spec_Decimal k (wrap64 (1 + v7.1))).bind fun v8 =>
        if ((ByteArray.size (⟨#[109, 97, 110, 121, 32]⟩ : ByteArray) + ByteArray.size v8 : Nat) : Int) ≤ 9223372036854775807 then some (((⟨#[109, 97, 110, 121, 32]⟩ : ByteArray) ++ v8), ((), v7.2.2)) else none
       else
        some ((⟨#[116, 105, 99, 107]⟩ : ByteArray), ((), v0.2.2))
      else
       if v0.1 = 5 then
        (spec_l01Below k ((a0, v0.2.2), 9)).bind fun v9 =>
        (spec_Decimal k (wrap64 (1 + v9.1))).bind fun v10 =>
        if ((ByteArray.size (⟨#[109, 97, 110, 121, 32]⟩ : ByteArray) + ByteArray.size v10 : Nat) : Int) ≤ 9223372036854775807 then some (((⟨#[109, 97, 110, 121, 32]⟩ : ByteArray) ++ v10), ((), v9.2.2)) else none
       else
        some ((⟨#[116, 105, 99, 107]⟩ : ByteArray), ((), v0.2.2))
   else
    if v0.1 = 2 then
     (spec_l01Pick k ((a0, v0.2.2), [(⟨#[98, 50, 46, 49, 46, 51, 48, 46]⟩ : ByteArray), (⟨#[111, 57, 46]⟩ : ByteArray), (⟨#[112]⟩ : ByteArray), (⟨#[103]⟩ : ByteArray), (⟨#[115]⟩ : ByteArray), (⟨#[120]⟩ : ByteArray), (⟨#[98, 57, 46, 51, 46, 53, 48, 46]⟩ : ByteArray), (⟨#[115, 103]⟩ : ByteArray)])).bind fun v11 =>
     if ((ByteArray.size (⟨#[107, 101, 121, 115, 32]⟩ : ByteArray) + ByteArray.size v11.1 : Nat) : Int) ≤ 9223372036854775807 then some (((⟨#[107, 101, 121, 115, 32]⟩ : ByteArray) ++ v11.1), ((), v11.2.2)) else none
    else
     if v0.1 = 3 then
      (spec_l14Order k (a0, v0.2.2)).bind fun v12 =>
      (spec_OrderText k v12.1).bind fun v13 =>
      (spec_Hex k v13.1).bind fun v14 =>
      if ((ByteArray.size (⟨#[108, 105, 110, 107, 32]⟩ : ByteArray) + ByteArray.size v14.1 : Nat) : Int) ≤ 9223372036854775807 then some (((⟨#[108, 105, 110, 107, 32]⟩ : ByteArray) ++ v14.1), ((), v12.2.2)) else none
     else
      if v0.1 = 4 then
       if v0.1 = 4 then
        (spec_l01Below k ((a0, v0.2.2), 9)).bind fun v15 =>
        (spec_Decimal k (wrap64 (1 + v15.1))).bind fun v16 =>
        if ((ByteArray.size (⟨#[109, 97, 110, 121, 32]⟩ : ByteArray) + ByteArray.size v16 : Nat) : Int) ≤ 9223372036854775807 then some (((⟨#[109, 97, 110, 121, 32]⟩ : ByteArray) ++ v16), ((), v15.2.2)) else none
       else
        some ((⟨#[116, 105, 99, 107]⟩ : ByteArray), ((), v0.2.2))
      else
       if v0.1 = 5 then
        (spec_l01Below k ((a0, v0.2.2), 9)).bind fun v17 =>
        (spec_Decimal k (wrap64 (1 + v17.1))).bind fun v18 =>
        if ((ByteArray.size (⟨#[109, 97, 110, 121, 32]⟩ : ByteArray) + ByteArray.size v18 : Nat) : Int) ≤ 9223372036854775807 then some (((⟨#[109, 97, 110, 121, 32]⟩ : ByteArray) ++ v18), ((), v17.2.2)) else none
       else
        some ((⟨#[116, 105, 99, 107]⟩ : ByteArray), ((), v0.2.2))
noncomputable def g_spec_l20Show : (List Int × Int × Int) → Option (ByteArray × (Unit × Int × Int)) := spec_l20Show_ (fun _ => g_spec_Decimal) (fun _ => g_spec_Hex) (fun _ => g_spec_OrderText) (fun _ => g_spec_SenseNames) (fun _ => g_spec_l01Below) (fun _ => g_spec_l01Pick) (fun _ => g_spec_l14Order) 0
theorem e_spec_l20Show : ∀ x b, g_spec_l20Show x = some b → ∃ k, spec_l20Show_ (fun _ => g_spec_Decimal) (fun _ => g_spec_Hex) (fun _ => g_spec_OrderText) (fun _ => g_spec_SenseNames) (fun _ => g_spec_l01Below) (fun _ => g_spec_l01Pick) (fun _ => g_spec_l14Order) k x = some b := fun x b h => ⟨0, h⟩
/- spec_l20Script -/
def con_spec_l20Script (f : Nat → (List Int × Int × Int) → Option (ByteArray × (Unit × Int × Int))) : Con := ⟨[.ptr [.sl (.int .u8), .int .i64, .int .i64] 72], 1, [.v false [.str], .box [.keep, .int .i64, .int .i64] 72], f⟩
mutual
def spec_l20Script_L3 (spec_l01Below : Nat → (List Int × Int × Int) × Int → Option (Int × (Unit × Int × Int))) (spec_l01Long : Nat → Int × Int → Option (ByteArray)) (spec_l01Once : Nat → (List Int × Int × Int) × Int → Option (Bool × (Unit × Int × Int))) (spec_l01Pick : Nat → (List Int × Int × Int) × List ByteArray → Option (ByteArray × (Unit × Int × Int))) (spec_l20Show : Nat → (List Int × Int × Int) → Option (ByteArray × (Unit × Int × Int))) : Nat → ByteArray × Int × Int × Int × List Int × Unit → Option (ByteArray × (Unit × Int × Int))
  | 0, _ => none
  | k + 1, (b0, b1, b2, b3, b4, ()) =>
    (spec_l01Below k ((b4, (b2, b3)), 24)).bind fun v0 =>
    if b1 < v0.1 then
     (spec_l01Once k ((b4, v0.2.2), 16)).bind fun v1 =>
     if v1.1 = true then
      (spec_l01Pick k ((b4, v1.2.2), [(⟨#[10]⟩ : ByteArray), (⟨#[32, 32, 10]⟩ : ByteArray), (⟨#[35, 32, 97, 32, 119, 111, 114, 100, 10]⟩ : ByteArray), (⟨#[32, 32, 35, 32, 98, 10]⟩ : ByteArray)])).bind fun v2 =>
      if ((ByteArray.size b0 + ByteArray.size v2.1 : Nat) : Int) ≤ 9223372036854775807 then (spec_l20Show k (b4, v2.2.2)).bind fun v3 =>
       (spec_l01Once k ((b4, v3.2.2), 80)).bind fun v4 =>
       if v4.1 = true then
        (spec_l01Pick k ((b4, v4.2.2), [(⟨#[102, 101, 101, 108, 32, 97, 105, 114, 44, 98, 108, 111, 99, 107]⟩ : ByteArray), (⟨#[107, 101, 121, 115]⟩ : ByteArray), (⟨#[108, 105, 110, 107, 32, 120, 120]⟩ : ByteArray), (⟨#[109, 97, 110, 121, 32, 48]⟩ : ByteArray), (⟨#[109, 97, 110, 121, 32, 53, 49]⟩ : ByteArray), (⟨#[116, 105, 99, 107, 32, 49]⟩ : ByteArray), (⟨#[119, 104, 97, 116]⟩ : ByteArray), (⟨#[7]⟩ : ByteArray), (⟨#[107, 101, 121, 115, 32, 97, 97, 97, 97, 97, 97, 97, 97, 97, 97, 97, 97, 97, 97, 97, 97, 97, 97, 97, 97, 97, 97, 97, 97]⟩ : ByteArray)])).bind fun v5 =>
        if ((ByteArray.size (b0 ++ v2.1) + ByteArray.size v5.1 : Nat) : Int) ≤ 9223372036854775807 then
         if ((ByteArray.size ((b0 ++ v2.1) ++ v5.1) + ByteArray.size (⟨#[10]⟩ : ByteArray) : Nat) : Int) ≤ 9223372036854775807 then spec_l20Script_L3 spec_l01Below spec_l01Long spec_l01Once spec_l01Pick spec_l20Show k ((((b0 ++ v2.1) ++ v5.1) ++ (⟨#[10]⟩ : ByteArray)), (wrap64 (b1 + 1)), v5.2.2.1, v5.2.2.2, b4, ()) else none
        else
         none
       else
        if ((ByteArray.size (b0 ++ v2.1) + ByteArray.size v3.1 : Nat) : Int) ≤ 9223372036854775807 then
         if ((ByteArray.size ((b0 ++ v2.1) ++ v3.1) + ByteArray.size (⟨#[10]⟩ : ByteArray) : Nat) : Int) ≤ 9223372036854775807 then spec_l20Script_L3 spec_l01Below spec_l01Long spec_l01Once spec_l01Pick spec_l20Show k ((((b0 ++ v2.1) ++ v3.1) ++ (⟨#[10]⟩ : ByteArray)), (wrap64 (b1 + 1)), v4.2.2.1, v4.2.2.2, b4, ()) else none
        else
         none else none
     else
      (spec_l20Show k (b4, v1.2.2)).bind fun v6 =>
      (spec_l01Once k ((b4, v6.2.2), 80)).bind fun v7 =>
      if v7.1 = true then
       (spec_l01Pick k ((b4, v7.2.2), [(⟨#[102, 101, 101, 108, 32, 97, 105, 114, 44, 98, 108, 111, 99, 107]⟩ : ByteArray), (⟨#[107, 101, 121, 115]⟩ : ByteArray), (⟨#[108, 105, 110, 107, 32, 120, 120]⟩ : ByteArray), (⟨#[109, 97, 110, 121, 32, 48]⟩ : ByteArray), (⟨#[109, 97, 110, 121, 32, 53, 49]⟩ : ByteArray), (⟨#[116, 105, 99, 107, 32, 49]⟩ : ByteArray), (⟨#[119, 104, 97, 116]⟩ : ByteArray), (⟨#[7]⟩ : ByteArray), (⟨#[107, 101, 121, 115, 32, 97, 97, 97, 97, 97, 97, 97, 97, 97, 97, 97, 97, 97, 97, 97, 97, 97, 97, 97, 97, 97, 97, 97, 97]⟩ : ByteArray)])).bind fun v8 =>
       if ((ByteArray.size b0 + ByteArray.size v8.1 : Nat) : Int) ≤ 9223372036854775807 then
        if ((ByteArray.size (b0 ++ v8.1) + ByteArray.size (⟨#[10]⟩ : ByteArray) : Nat) : Int) ≤ 9223372036854775807 then spec_l20Script_L3 spec_l01Below spec_l01Long spec_l01Once spec_l01Pick spec_l20Show k (((b0 ++ v8.1) ++ (⟨#[10]⟩ : ByteArray)), (wrap64 (b1 + 1)), v8.2.2.1, v8.2.2.2, b4, ()) else none
       else
        none
      else
       if ((ByteArray.size b0 + ByteArray.size v6.1 : Nat) : Int) ≤ 9223372036854775807 then
        if ((ByteArray.size (b0 ++ v6.1) + ByteArray.size (⟨#[10]⟩ : ByteArray) : Nat) : Int) ≤ 9223372036854775807 then spec_l20Script_L3 spec_l01Below spec_l01Long spec_l01Once spec_l01Pick spec_l20Show k (((b0 ++ v6.1) ++ (⟨#[10]⟩ : ByteArray)), (wrap64 (b1 + 1)), v7.2.2.1, v7.2.2.2, b4, ()) else none
       else
        none
    else
     (spec_l01Below k ((b4, v0.2.2), 30)).bind fun v9 =>
     if v9.1 = 0 then
      if ((ByteArray.size (⟨#[35, 32, 102, 105, 114, 115, 116, 10]⟩ : ByteArray) + ByteArray.size b0 : Nat) : Int) ≤ 9223372036854775807 then some (((⟨#[35, 32, 102, 105, 114, 115, 116, 10]⟩ : ByteArray) ++ b0), ((), v9.2.2)) else none
     else
      if v9.1 = 1 then
       (spec_l01Pick k ((b4, v9.2.2), [(⟨#[]⟩ : ByteArray), (⟨#[10]⟩ : ByteArray), (⟨#[35]⟩ : ByteArray), (⟨#[116, 105, 99, 107]⟩ : ByteArray), (⟨#[109, 97, 110, 121, 32, 48, 53, 48, 10]⟩ : ByteArray), (⟨#[109, 97, 110, 121, 32, 53, 48, 10, 109, 97, 110, 121, 32, 53, 48, 10, 109, 97, 110, 121, 32, 53, 48, 10]⟩ : ByteArray), (⟨#[109, 97, 110, 121, 32, 53, 48, 10, 109, 97, 110, 121, 32, 53, 48, 10, 109, 97, 110, 121, 32, 53, 48, 10, 116, 105, 99, 107, 10]⟩ : ByteArray)])).bind fun v10 =>
       some (v10.1, ((), v10.2.2))
      else
       if v9.1 = 2 then
        if 0 < ((ByteArray.size b0 : Nat) : Int) then
         if 0 ≤ (wrap64 (((ByteArray.size b0 : Nat) : Int) - 1)) then
          if (wrap64 (((ByteArray.size b0 : Nat) : Int) - 1)) ≤ ((ByteArray.size b0 : Nat) : Int) then some ((ByteArray.extract b0 (Int.toNat 0) (Int.toNat (wrap64 (((ByteArray.size b0 : Nat) : Int) - 1)))), ((), v9.2.2)) else none
         else
          none
        else
         some (b0, ((), v9.2.2))
       else
        if v9.1 = 3 then
         spec_l20Script_L21 spec_l01Below spec_l01Long spec_l01Once spec_l01Pick spec_l20Show k (b0, 0, v9.2.2.1, v9.2.2.2, b4, ())
        else
         if v9.1 = 4 then
          if ((ByteArray.size b0 : Nat) : Int) < 3000 then
           if ((ByteArray.size b0 + ByteArray.size (⟨#[35]⟩ : ByteArray) : Nat) : Int) ≤ 9223372036854775807 then (spec_l01Below k ((b4, v9.2.2), 2)).bind fun v11 =>
            (spec_l01Long k ((wrap64 ((wrap64 ((wrap64 (3000 - ((ByteArray.size b0 : Nat) : Int))) - 1)) + v11.1)), 32)).bind fun v12 =>
            if ((ByteArray.size (b0 ++ (⟨#[35]⟩ : ByteArray)) + ByteArray.size v12 : Nat) : Int) ≤ 9223372036854775807 then some (((b0 ++ (⟨#[35]⟩ : ByteArray)) ++ v12), ((), v11.2.2)) else none else none
          else
           some (b0, ((), v9.2.2))
         else
          some (b0, ((), v9.2.2))
def spec_l20Script_L21 (spec_l01Below : Nat → (List Int × Int × Int) × Int → Option (Int × (Unit × Int × Int))) (spec_l01Long : Nat → Int × Int → Option (ByteArray)) (spec_l01Once : Nat → (List Int × Int × Int) × Int → Option (Bool × (Unit × Int × Int))) (spec_l01Pick : Nat → (List Int × Int × Int) × List ByteArray → Option (ByteArray × (Unit × Int × Int))) (spec_l20Show : Nat → (List Int × Int × Int) → Option (ByteArray × (Unit × Int × Int))) : Nat → ByteArray × Int × Int × Int × List Int × Unit → Option (ByteArray × (Unit × Int × Int))
  | 0, _ => none
  | k + 1, (b0, b1, b2, b3, b4, ()) =>
    if b1 < 120 then
     if ((ByteArray.size b0 + ByteArray.size (⟨#[10]⟩ : ByteArray) : Nat) : Int) ≤ 9223372036854775807 then spec_l20Script_L21 spec_l01Below spec_l01Long spec_l01Once spec_l01Pick spec_l20Show k ((b0 ++ (⟨#[10]⟩ : ByteArray)), (wrap64 (b1 + 1)), b2, b3, b4, ()) else none
    else
     some (b0, ((), (b2, b3)))
end
def spec_l20Script_ (spec_l01Below : Nat → (List Int × Int × Int) × Int → Option (Int × (Unit × Int × Int))) (spec_l01Long : Nat → Int × Int → Option (ByteArray)) (spec_l01Once : Nat → (List Int × Int × Int) × Int → Option (Bool × (Unit × Int × Int))) (spec_l01Pick : Nat → (List Int × Int × Int) × List ByteArray → Option (ByteArray × (Unit × Int × Int))) (spec_l20Show : Nat → (List Int × Int × Int) → Option (ByteArray × (Unit × Int × Int))) (k : Nat) : (List Int × Int × Int) → Option (ByteArray × (Unit × Int × Int))
  | (a0, a1, a2) =>
  spec_l20Script_L3 spec_l01Below spec_l01Long spec_l01Once spec_l01Pick spec_l20Show k ((⟨#[]⟩ : ByteArray), 0, a1, a2, a0, ())
noncomputable def g_spec_l20Script : (List Int × Int × Int) → Option (ByteArray × (Unit × Int × Int)) := evG (spec_l20Script_ (fun _ => g_spec_l01Below) (fun _ => g_spec_l01Long) (fun _ => g_spec_l01Once) (fun _ => g_spec_l01Pick) (fun _ => g_spec_l20Show))
theorem e_spec_l20Script : ∀ x b, g_spec_l20Script x = some b → ∃ k, spec_l20Script_ (fun _ => g_spec_l01Below) (fun _ => g_spec_l01Long) (fun _ => g_spec_l01Once) (fun _ => g_spec_l01Pick) (fun _ => g_spec_l20Show) k x = some b := evG_e _
/- spec_DrawConsole -/
def con_spec_DrawConsole (f : Nat → List Int → Option (ByteArray)) : Con := ⟨[.c (.sl (.int .u8))], 1, [.v false [.str]], f⟩
def spec_DrawConsole_ (spec_l01New : Nat → List Int → Option ((Unit × Int × Int))) (spec_l20Script : Nat → (List Int × Int × Int) → Option (ByteArray × (Unit × Int × Int))) (k : Nat) : List Int → Option (ByteArray)
  | a0 =>
  (spec_l01New k a0).bind fun v0 =>
  (spec_l20Script k (a0, v0.2)).bind fun v1 =>
  some v1.1
noncomputable def g_spec_DrawConsole : List Int → Option (ByteArray) := spec_DrawConsole_ (fun _ => g_spec_l01New) (fun _ => g_spec_l20Script) 0
theorem e_spec_DrawConsole : ∀ x b, g_spec_DrawConsole x = some b → ∃ k, spec_DrawConsole_ (fun _ => g_spec_l01New) (fun _ => g_spec_l20Script) k x = some b := fun x b h => ⟨0, h⟩
/- laws_FnScript -/
def con_laws_FnScript (f : Nat → List Int → Option (Bool)) : Con := ⟨[.c (.sl (.int .u8))], 1, [.v false [.bool]], f⟩
def laws_FnScript_ (impl_Console : Nat → ByteArray → Option (ByteArray)) (impl_RunDevice : Nat → ((List (Int × (ByteArray × ByteArray)))) → Option ((Int × Int × Int × Int × Int × Int × Int × Int × List Int × Int × Int × Bool × Int × Int × ByteArray × (List (Int × (Int × Int))) × Int) × Bool)) (impl_ShowDevice : Nat → (Int × Int × Int × Int × Int × Int × Int × Int × List Int × Int × Int × Bool × Int × Int × ByteArray × (List (Int × (Int × Int))) × Int) → Option (ByteArray)) (laws_begins : Nat → ByteArray × ByteArray → Option (Bool)) (laws_big : Nat → List Int → Option (Bool)) (spec_Console : Nat → ByteArray → Option (ByteArray)) (spec_Decimal : Nat → Int → Option (ByteArray)) (spec_DrawConsole : Nat → List Int → Option (ByteArray)) (spec_ReadScript : Nat → ByteArray → Option (((List (Int × (ByteArray × ByteArray)))) × Int)) (k : Nat) : List Int → Option (Bool)
  | a0 =>
  (laws_big k a0).bind fun v0 =>
  if v0 = true then
   some true
  else
   (spec_DrawConsole k a0).bind fun v1 =>
   (spec_ReadScript k v1).bind fun v2 =>
   (impl_Console k v1).bind fun v3 =>
   if v2.2 = 0 then
    (impl_RunDevice k v2.1).bind fun v4 =>
    (impl_ShowDevice k v4.1).bind fun v5 =>
    if v4.2 = true then
     if ((List.length v4.1.2.2.2.2.2.2.2.2.2.2.2.2.2.2.2.1 : Nat) : Int) = ((List.length v2.1 : Nat) : Int) then
      if ((ByteArray.size v3 : Nat) : Int) < ((ByteArray.size v5 : Nat) : Int) then
       some false
      else
       if 0 ≤ (wrap64 (((ByteArray.size v3 : Nat) : Int) - ((ByteArray.size v5 : Nat) : Int))) then
        if (wrap64 (((ByteArray.size v3 : Nat) : Int) - ((ByteArray.size v5 : Nat) : Int))) ≤ ((ByteArray.size v3 : Nat) : Int) then
         if (ByteArray.extract v3 (Int.toNat (wrap64 (((ByteArray.size v3 : Nat) : Int) - ((ByteArray.size v5 : Nat) : Int)))) (Int.toNat ((ByteArray.size v3 : Nat) : Int))) = v5 then
          (laws_begins k ((⟨#[115, 116, 97, 116, 101, 32]⟩ : ByteArray), v5)).bind fun v6 =>
          if v6 = true then
           if ((ByteArray.size (⟨#[35, 32, 115, 97, 105, 100, 10, 32, 32, 32, 10]⟩ : ByteArray) + ByteArray.size v1 : Nat) : Int) ≤ 9223372036854775807 then
            if 0 < ((ByteArray.size v1 : Nat) : Int) then
             if 0 ≤ (wrap64 (((ByteArray.size v1 : Nat) : Int) - 1)) then
              if (wrap64 (((ByteArray.size v1 : Nat) : Int) - 1)) < ((ByteArray.size v1 : Nat) : Int) then
               if (byt v1 (wrap64 (((ByteArray.size v1 : Nat) : Int) - 1))) = 10 then
                if ((ByteArray.size ((⟨#[35, 32, 115, 97, 105, 100, 10, 32, 32, 32, 10]⟩ : ByteArray) ++ v1) + ByteArray.size (⟨#[32, 32, 35, 32, 109, 111, 114, 101, 10]⟩ : ByteArray) : Nat) : Int) ≤ 9223372036854775807 then (spec_ReadScript k (((⟨#[35, 32, 115, 97, 105, 100, 10, 32, 32, 32, 10]⟩ : ByteArray) ++ v1) ++ (⟨#[32, 32, 35, 32, 109, 111, 114, 101, 10]⟩ : ByteArray))).bind fun v7 =>
                 (spec_Console k v1).bind fun v8 =>
                 if v3 = v8 then
                  if v7.2 = (-1) then
                   some true
                  else
                   (impl_Console k (((⟨#[35, 32, 115, 97, 105, 100, 10, 32, 32, 32, 10]⟩ : ByteArray) ++ v1) ++ (⟨#[32, 32, 35, 32, 109, 111, 114, 101, 10]⟩ : ByteArray))).bind fun v9 =>
                   some (decide (v9 = v3))
                 else
                  some false else none
               else
                (spec_ReadScript k ((⟨#[35, 32, 115, 97, 105, 100, 10, 32, 32, 32, 10]⟩ : ByteArray) ++ v1)).bind fun v10 =>
                (spec_Console k v1).bind fun v11 =>
                if v3 = v11 then
                 if v10.2 = (-1) then
                  some true
                 else
                  (impl_Console k ((⟨#[35, 32, 115, 97, 105, 100, 10, 32, 32, 32, 10]⟩ : ByteArray) ++ v1)).bind fun v12 =>
                  some (decide (v12 = v3))
                else
                 some false
              else
               none
             else
              none
            else
             (spec_ReadScript k ((⟨#[35, 32, 115, 97, 105, 100, 10, 32, 32, 32, 10]⟩ : ByteArray) ++ v1)).bind fun v13 =>
             (spec_Console k v1).bind fun v14 =>
             if v3 = v14 then
              if v13.2 = (-1) then
               some true
              else
               (impl_Console k ((⟨#[35, 32, 115, 97, 105, 100, 10, 32, 32, 32, 10]⟩ : ByteArray) ++ v1)).bind fun v15 =>
               some (decide (v15 = v3))
             else
              some false
           else
            none
          else
           some false
         else
          some false
        else
         none
       else
        none
     else
      some false
    else
     some false
   else
    (spec_Decimal k v2.2).bind fun v16 =>
    if ((ByteArray.size (⟨#[102, 97, 117, 108, 116, 32]⟩ : ByteArray) + ByteArray.size v16 : Nat) : Int) ≤ 9223372036854775807 then
     if ((ByteArray.size ((⟨#[102, 97, 117, 108, 116, 32]⟩ : ByteArray) ++ v16) + ByteArray.size (⟨#[10]⟩ : ByteArray) : Nat) : Int) ≤ 9223372036854775807 then some (decide (v3 = (((⟨#[102, 97, 117, 108, 116, 32]⟩ : ByteArray) ++ v16) ++ (⟨#[10]⟩ : ByteArray)))) else none
    else
     none
noncomputable def g_laws_FnScript : List Int → Option (Bool) := laws_FnScript_ (fun _ => g_impl_Console) (fun _ => g_impl_RunDevice) (fun _ => g_impl_ShowDevice) (fun _ => g_laws_begins) (fun _ => g_laws_big) (fun _ => g_spec_Console) (fun _ => g_spec_Decimal) (fun _ => g_spec_DrawConsole) (fun _ => g_spec_ReadScript) 0
theorem e_laws_FnScript : ∀ x b, g_laws_FnScript x = some b → ∃ k, laws_FnScript_ (fun _ => g_impl_Console) (fun _ => g_impl_RunDevice) (fun _ => g_impl_ShowDevice) (fun _ => g_laws_begins) (fun _ => g_laws_big) (fun _ => g_spec_Console) (fun _ => g_spec_Decimal) (fun _ => g_spec_DrawConsole) (fun _ => g_spec_ReadScript) k x = some b := fun x b h => ⟨0, h⟩
end Go.Sx.T
