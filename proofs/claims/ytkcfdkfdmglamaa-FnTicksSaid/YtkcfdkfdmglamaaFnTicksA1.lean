/- Functions of the program as functions of Lean, and that the program keeps to them. -/
import Derived.Test.YtkcfdkfdmglamaaFnTicksA0
set_option maxRecDepth 100000
set_option linter.unusedVariables false
set_option linter.unusedSimpArgs false
namespace Go.Proofs
end Go.Proofs
namespace Go.Sx.T
open Go Go.Sx Go.Proofs Go.RowKit
/- spec_Wants -/
def con_spec_Wants (f : Nat → (Int × Int × Int × Int × Int × Int × Int × Int) → Option (Int)) : Con := ⟨[.agg [.int .i64, .int .i64, .int .i64, .int .i64, .int .i64, .int .i64, .int .i64, .int .i64]], 1, [.v false [.int .i64]], f⟩
def spec_Wants_ (spec_PumpOk : Nat → (Int × Int × Int × Int × Int × Int × Int × Int) → Option (Bool)) (spec_StepRate : Nat → (Int × Int × Int) → Option ((Int × Int × Int) × Int)) (spec_l15Less : Nat → Int × Int → Option (Int)) (k : Nat) : (Int × Int × Int × Int × Int × Int × Int × Int) → Option (Int)
  | (a0, a1, a2, a3, a4, a5, a6, a7) =>
  (spec_PumpOk k (a0, (a1, (a2, (a3, (a4, (a5, (a6, a7)))))))).bind fun v0 =>
  if v0 = true then
   if a0 = 1 then
    (spec_StepRate k (a1, (a2, a3))).bind fun v1 =>
    if a0 = 1 then
     (spec_l15Less k (v1.2, a4)).bind fun v2 =>
     (spec_l15Less k (a5, 3)).bind fun v3 =>
     some (wrap64 (v2 + v3))
    else
     (spec_l15Less k (a5, 3)).bind fun v4 =>
     some (wrap64 (v1.2 + v4))
   else
    if a0 = 2 then
     (spec_StepRate k (a1, (a2, a3))).bind fun v5 =>
     if a0 = 1 then
      (spec_l15Less k (v5.2, a4)).bind fun v6 =>
      (spec_l15Less k (a5, 3)).bind fun v7 =>
      some (wrap64 (v6 + v7))
     else
      (spec_l15Less k (a5, 3)).bind fun v8 =>
      some (wrap64 (v5.2 + v8))
    else
     some 0
  else
   some 0
noncomputable def g_spec_Wants : (Int × Int × Int × Int × Int × Int × Int × Int) → Option (Int) := spec_Wants_ (fun _ => g_spec_PumpOk) (fun _ => g_spec_StepRate) (fun _ => g_spec_l15Less) 0
theorem e_spec_Wants : ∀ x b, g_spec_Wants x = some b → ∃ k, spec_Wants_ (fun _ => g_spec_PumpOk) (fun _ => g_spec_StepRate) (fun _ => g_spec_l15Less) k x = some b := fun x b h => ⟨0, h⟩
/- spec_Give -/
def con_spec_Give (f : Nat → (Int × Int × Int × Int × Int × Int × Int × Int) × Int → Option ((Int × Int × Int × Int × Int × Int × Int × Int))) : Con := ⟨[.agg [.int .i64, .int .i64, .int .i64, .int .i64, .int .i64, .int .i64, .int .i64, .int .i64], .c (.int .i64)], 1, [.v true [.int .i64, .int .i64, .int .i64, .int .i64, .int .i64, .int .i64, .int .i64, .int .i64]], f⟩
def spec_Give_ (spec_PumpOk : Nat → (Int × Int × Int × Int × Int × Int × Int × Int) → Option (Bool)) (spec_StepRate : Nat → (Int × Int × Int) → Option ((Int × Int × Int) × Int)) (spec_Wants : Nat → (Int × Int × Int × Int × Int × Int × Int × Int) → Option (Int)) (spec_l15Less : Nat → Int × Int → Option (Int)) (k : Nat) : (Int × Int × Int × Int × Int × Int × Int × Int) × Int → Option ((Int × Int × Int × Int × Int × Int × Int × Int))
  | ((a0, a1, a2, a3, a4, a5, a6, a7), a8) =>
  (spec_PumpOk k (a0, (a1, (a2, (a3, (a4, (a5, (a6, a7)))))))).bind fun v0 =>
  if v0 = true then
   if a0 = 1 then
    (spec_Wants k (a0, (a1, (a2, (a3, (a4, (a5, (a6, a7)))))))).bind fun v1 =>
    (spec_l15Less k (a8, v1)).bind fun v2 =>
    if v2 < 0 then
     (spec_StepRate k (a1, (a2, a3))).bind fun v3 =>
     (spec_l15Less k (a5, 3)).bind fun v4 =>
     (spec_l15Less k (0, v4)).bind fun v5 =>
     if a0 = 1 then
      (spec_l15Less k ((wrap64 (a6 + 0)), 1000000000000)).bind fun v6 =>
      if a0 = 1 then
       if (wrap64 (a4 - (wrap64 (0 - v5)))) = 0 then
        some (2, (1, (50, (0, ((wrap64 (a4 - (wrap64 (0 - v5)))), ((wrap64 (a5 - v5)), (v6, a7)))))))
       else
        some (a0, (v3.1.1, (v3.1.2.1, (v3.1.2.2, ((wrap64 (a4 - (wrap64 (0 - v5)))), ((wrap64 (a5 - v5)), (v6, a7)))))))
      else
       some (a0, (v3.1.1, (v3.1.2.1, (v3.1.2.2, ((wrap64 (a4 - (wrap64 (0 - v5)))), ((wrap64 (a5 - v5)), (v6, a7)))))))
     else
      (spec_l15Less k ((wrap64 (a6 + 0)), 1000000000000)).bind fun v7 =>
      if a0 = 1 then
       if a4 = 0 then
        some (2, (1, (50, (0, (a4, ((wrap64 (a5 - v5)), (v7, a7)))))))
       else
        some (a0, (v3.1.1, (v3.1.2.1, (v3.1.2.2, (a4, ((wrap64 (a5 - v5)), (v7, a7)))))))
      else
       some (a0, (v3.1.1, (v3.1.2.1, (v3.1.2.2, (a4, ((wrap64 (a5 - v5)), (v7, a7)))))))
    else
     (spec_StepRate k (a1, (a2, a3))).bind fun v8 =>
     (spec_l15Less k (a5, 3)).bind fun v9 =>
     (spec_l15Less k (v2, v9)).bind fun v10 =>
     if a0 = 1 then
      (spec_l15Less k ((wrap64 (a6 + v2)), 1000000000000)).bind fun v11 =>
      if a0 = 1 then
       if (wrap64 (a4 - (wrap64 (v2 - v10)))) = 0 then
        some (2, (1, (50, (0, ((wrap64 (a4 - (wrap64 (v2 - v10)))), ((wrap64 (a5 - v10)), (v11, a7)))))))
       else
        some (a0, (v8.1.1, (v8.1.2.1, (v8.1.2.2, ((wrap64 (a4 - (wrap64 (v2 - v10)))), ((wrap64 (a5 - v10)), (v11, a7)))))))
      else
       some (a0, (v8.1.1, (v8.1.2.1, (v8.1.2.2, ((wrap64 (a4 - (wrap64 (v2 - v10)))), ((wrap64 (a5 - v10)), (v11, a7)))))))
     else
      (spec_l15Less k ((wrap64 (a6 + v2)), 1000000000000)).bind fun v12 =>
      if a0 = 1 then
       if a4 = 0 then
        some (2, (1, (50, (0, (a4, ((wrap64 (a5 - v10)), (v12, a7)))))))
       else
        some (a0, (v8.1.1, (v8.1.2.1, (v8.1.2.2, (a4, ((wrap64 (a5 - v10)), (v12, a7)))))))
      else
       some (a0, (v8.1.1, (v8.1.2.1, (v8.1.2.2, (a4, ((wrap64 (a5 - v10)), (v12, a7)))))))
   else
    if a0 = 2 then
     (spec_Wants k (a0, (a1, (a2, (a3, (a4, (a5, (a6, a7)))))))).bind fun v13 =>
     (spec_l15Less k (a8, v13)).bind fun v14 =>
     if v14 < 0 then
      (spec_StepRate k (a1, (a2, a3))).bind fun v15 =>
      (spec_l15Less k (a5, 3)).bind fun v16 =>
      (spec_l15Less k (0, v16)).bind fun v17 =>
      if a0 = 1 then
       (spec_l15Less k ((wrap64 (a6 + 0)), 1000000000000)).bind fun v18 =>
       if a0 = 1 then
        if (wrap64 (a4 - (wrap64 (0 - v17)))) = 0 then
         some (2, (1, (50, (0, ((wrap64 (a4 - (wrap64 (0 - v17)))), ((wrap64 (a5 - v17)), (v18, a7)))))))
        else
         some (a0, (v15.1.1, (v15.1.2.1, (v15.1.2.2, ((wrap64 (a4 - (wrap64 (0 - v17)))), ((wrap64 (a5 - v17)), (v18, a7)))))))
       else
        some (a0, (v15.1.1, (v15.1.2.1, (v15.1.2.2, ((wrap64 (a4 - (wrap64 (0 - v17)))), ((wrap64 (a5 - v17)), (v18, a7)))))))
      else
       (spec_l15Less k ((wrap64 (a6 + 0)), 1000000000000)).bind fun v19 =>
       if a0 = 1 then
        if a4 = 0 then
         some (2, (1, (50, (0, (a4, ((wrap64 (a5 - v17)), (v19, a7)))))))
        else
         some (a0, (v15.1.1, (v15.1.2.1, (v15.1.2.2, (a4, ((wrap64 (a5 - v17)), (v19, a7)))))))
       else
        some (a0, (v15.1.1, (v15.1.2.1, (v15.1.2.2, (a4, ((wrap64 (a5 - v17)), (v19, a7)))))))
     else
      (spec_StepRate k (a1, (a2, a3))).bind fun v20 =>
      (spec_l15Less k (a5, 3)).bind fun v21 =>
      (spec_l15Less k (v14, v21)).bind fun v22 =>
      if a0 = 1 then
       (spec_l15Less k ((wrap64 (a6 + v14)), 1000000000000)).bind fun v23 =>
       if a0 = 1 then
        if (wrap64 (a4 - (wrap64 (v14 - v22)))) = 0 then
         some (2, (1, (50, (0, ((wrap64 (a4 - (wrap64 (v14 - v22)))), ((wrap64 (a5 - v22)), (v23, a7)))))))
        else
         some (a0, (v20.1.1, (v20.1.2.1, (v20.1.2.2, ((wrap64 (a4 - (wrap64 (v14 - v22)))), ((wrap64 (a5 - v22)), (v23, a7)))))))
       else
        some (a0, (v20.1.1, (v20.1.2.1, (v20.1.2.2, ((wrap64 (a4 - (wrap64 (v14 - v22)))), ((wrap64 (a5 - v22)), (v23, a7)))))))
      else
       (spec_l15Less k ((wrap64 (a6 + v14)), 1000000000000)).bind fun v24 =>
       if a0 = 1 then
        if a4 = 0 then
         some (2, (1, (50, (0, (a4, ((wrap64 (a5 - v22)), (v24, a7)))))))
        else
         some (a0, (v20.1.1, (v20.1.2.1, (v20.1.2.2, (a4, ((wrap64 (a5 - v22)), (v24, a7)))))))
       else
        some (a0, (v20.1.1, (v20.1.2.1, (v20.1.2.2, (a4, ((wrap64 (a5 - v22)), (v24, a7)))))))
    else
     some (a0, (a1, (a2, (a3, (a4, (a5, (a6, a7)))))))
  else
   some (a0, (a1, (a2, (a3, (a4, (a5, (a6, a7)))))))
noncomputable def g_spec_Give : (Int × Int × Int × Int × Int × Int × Int × Int) × Int → Option ((Int × Int × Int × Int × Int × Int × Int × Int)) := spec_Give_ (fun _ => g_spec_PumpOk) (fun _ => g_spec_StepRate) (fun _ => g_spec_Wants) (fun _ => g_spec_l15Less) 0
theorem e_spec_Give : ∀ x b, g_spec_Give x = some b → ∃ k, spec_Give_ (fun _ => g_spec_PumpOk) (fun _ => g_spec_StepRate) (fun _ => g_spec_Wants) (fun _ => g_spec_l15Less) k x = some b := fun x b h => ⟨0, h⟩
/- spec_Allow -/
def con_spec_Allow (f : Nat → (List Int × Int) × Int → Option (Int)) : Con := ⟨[.agg [.sl (.int .i64), .int .i64], .c (.int .i64)], 1, [.v false [.int .i64]], f⟩
def spec_Allow_ (spec_GuardOk : Nat → (List Int × Int) → Option (Bool)) (spec_RoomOf : Nat → (List Int × Int) → Option (Int)) (spec_l15Less : Nat → Int × Int → Option (Int)) (k : Nat) : (List Int × Int) × Int → Option (Int)
  | ((a0, a1), a2) =>
  (spec_GuardOk k (a0, a1)).bind fun v0 =>
  if v0 = true then
   if a1 = 0 then
    if a2 < 0 then
     some 0
    else
     (spec_RoomOf k (a0, a1)).bind fun v1 =>
     (spec_l15Less k (a2, v1)).bind fun v2 =>
     some v2
   else
    some 0
  else
   some 0
noncomputable def g_spec_Allow : (List Int × Int) × Int → Option (Int) := spec_Allow_ (fun _ => g_spec_GuardOk) (fun _ => g_spec_RoomOf) (fun _ => g_spec_l15Less) 0
theorem e_spec_Allow : ∀ x b, g_spec_Allow x = some b → ∃ k, spec_Allow_ (fun _ => g_spec_GuardOk) (fun _ => g_spec_RoomOf) (fun _ => g_spec_l15Less) k x = some b := fun x b h => ⟨0, h⟩
/- spec_Feel -/
def con_spec_Feel (f : Nat → (List Int × Int) × Int × Bool → Option ((List Int × Int))) : Con := ⟨[.agg [.sl (.int .i64), .int .i64], .c (.int .i64), .c (.bool)], 1, [.v true [.own (.int .i64) 3, .int .i64]], f⟩
def spec_Feel_ (spec_GuardOk : Nat → (List Int × Int) → Option (Bool)) (spec_SenseOk : Nat → Int → Option (Bool)) (spec_l13Both : Nat → Int × Int → Option (Int)) (spec_l16Copy : Nat → (List Int × Int) → Option ((List Int × Int))) (k : Nat) : (List Int × Int) × Int × Bool → Option ((List Int × Int))
  | ((a0, a1), a2, a3) =>
  (spec_l16Copy k (a0, a1)).bind fun v0 =>
  (spec_GuardOk k (a0, a1)).bind fun v1 =>
  if v1 = true then
   (spec_SenseOk k a2).bind fun v2 =>
   if v2 = true then
    (spec_l13Both k (a1, a2)).bind fun v3 =>
    if a3 = true then
     some (v0.1, a2)
    else
     some (v0.1, v3)
   else
    some v0
  else
   some v0
noncomputable def g_spec_Feel : (List Int × Int) × Int × Bool → Option ((List Int × Int)) := spec_Feel_ (fun _ => g_spec_GuardOk) (fun _ => g_spec_SenseOk) (fun _ => g_spec_l13Both) (fun _ => g_spec_l16Copy) 0
theorem e_spec_Feel : ∀ x b, g_spec_Feel x = some b → ∃ k, spec_Feel_ (fun _ => g_spec_GuardOk) (fun _ => g_spec_SenseOk) (fun _ => g_spec_l13Both) (fun _ => g_spec_l16Copy) k x = some b := fun x b h => ⟨0, h⟩
/- spec_Take -/
def con_spec_Take (f : Nat → (Int × Int × Int × Int × Int × Int × Int × Int) × (Int × Int × Int × Int) → Option ((Int × Int × Int × Int × Int × Int × Int × Int) × Bool)) : Con := ⟨[.agg [.int .i64, .int .i64, .int .i64, .int .i64, .int .i64, .int .i64, .int .i64, .int .i64], .agg [.int .i64, .int .i64, .int .i64, .int .i64]], 2, [.v true [.int .i64, .int .i64, .int .i64, .int .i64, .int .i64, .int .i64, .int .i64, .int .i64], .v false [.bool]], f⟩
def spec_Take_ (spec_OrderOk : Nat → (Int × Int × Int × Int) → Option (Bool)) (spec_PumpOk : Nat → (Int × Int × Int × Int × Int × Int × Int × Int) → Option (Bool)) (k : Nat) : (Int × Int × Int × Int × Int × Int × Int × Int) × (Int × Int × Int × Int) → Option ((Int × Int × Int × Int × Int × Int × Int × Int) × Bool)
  | ((a0, a1, a2, a3, a4, a5, a6, a7), (a8, a9, a10, a11)) =>
  (spec_PumpOk k (a0, (a1, (a2, (a3, (a4, (a5, (a6, a7)))))))).bind fun v0 =>
  if v0 = true then
   (spec_OrderOk k (a8, (a9, (a10, a11)))).bind fun v1 =>
   if v1 = true then
    if a8 = 1 then
     if a0 = 0 then
      some ((1, (a9, (a10, (0, (a11, (a5, (a6, a7))))))), true)
     else
      if a0 = 2 then
       some ((1, (a9, (a10, (0, (a11, (a5, (a6, a7))))))), true)
      else
       some ((a0, (a1, (a2, (a3, (a4, (a5, (a6, a7))))))), false)
    else
     if a8 = 2 then
      if a0 = 0 then
       some ((a0, (a1, (a2, (a3, (a4, (a5, (a6, a7))))))), false)
      else
       if a0 = 3 then
        some ((a0, (a1, (a2, (a3, (a4, (a5, (a6, a7))))))), false)
       else
        if 0 < a5 then
         some ((a0, (a1, (a2, (a3, (a4, (a5, (a6, a7))))))), false)
        else
         some ((a0, (a1, (a2, (a3, (a4, (a11, (a6, a7))))))), true)
     else
      if a8 = 3 then
       if a0 = 0 then
        some ((a0, (a1, (a2, (a3, (a4, (a5, (a6, a7))))))), false)
       else
        if a0 = 3 then
         some ((a0, (a1, (a2, (a3, (a4, (a5, (a6, a7))))))), false)
        else
         some ((3, (a1, (a2, (a3, (a4, (a5, (a6, a0))))))), true)
      else
       if a8 = 4 then
        if a0 = 3 then
         some ((a7, (a1, (a2, (a3, (a4, (a5, (a6, 0))))))), true)
        else
         some ((a0, (a1, (a2, (a3, (a4, (a5, (a6, a7))))))), false)
       else
        if a8 = 6 then
         some ((0, (a1, (a2, (a3, (0, (0, (a6, 0))))))), true)
        else
         some ((a0, (a1, (a2, (a3, (a4, (a5, (a6, a7))))))), false)
   else
    some ((a0, (a1, (a2, (a3, (a4, (a5, (a6, a7))))))), false)
  else
   some ((a0, (a1, (a2, (a3, (a4, (a5, (a6, a7))))))), false)
noncomputable def g_spec_Take : (Int × Int × Int × Int × Int × Int × Int × Int) × (Int × Int × Int × Int) → Option ((Int × Int × Int × Int × Int × Int × Int × Int) × Bool) := spec_Take_ (fun _ => g_spec_OrderOk) (fun _ => g_spec_PumpOk) 0
theorem e_spec_Take : ∀ x b, g_spec_Take x = some b → ∃ k, spec_Take_ (fun _ => g_spec_OrderOk) (fun _ => g_spec_PumpOk) k x = some b := fun x b h => ⟨0, h⟩
/- spec_InOk -/
def con_spec_InOk (f : Nat → (Int × ByteArray × ByteArray) → Option (Bool)) : Con := ⟨[.agg [.int .i64, .str, .str]], 1, [.v false [.bool]], f⟩
def spec_InOk_ (spec_SenseOk : Nat → Int → Option (Bool)) (k : Nat) : (Int × ByteArray × ByteArray) → Option (Bool)
  | (a0, a1, a2) =>
  (spec_SenseOk k a0).bind fun v0 =>
  if v0 = true then
   if ((ByteArray.size a1 : Nat) : Int) ≤ 20 then
    some (decide (((ByteArray.size a2 : Nat) : Int) ≤ 40))
   else
    some false
  else
   some false
noncomputable def g_spec_InOk : (Int × ByteArray × ByteArray) → Option (Bool) := spec_InOk_ (fun _ => g_spec_SenseOk) 0
theorem e_spec_InOk : ∀ x b, g_spec_InOk x = some b → ∃ k, spec_InOk_ (fun _ => g_spec_SenseOk) k x = some b := fun x b h => ⟨0, h⟩
/- spec_DeviceOk -/
def con_spec_DeviceOk (f : Nat → (Int × Int × Int × Int × Int × Int × Int × Int × List Int × Int × Int × Bool × Int × Int × ByteArray × (List (Int × (Int × Int))) × Int) → Option (Bool)) : Con := ⟨[.agg [.int .i64, .int .i64, .int .i64, .int .i64, .int .i64, .int .i64, .int .i64, .int .i64, .sl (.int .i64), .int .i64, .int .i64, .bool, .int .i64, .int .i64, .str, .sl (.pair (.int .i64) (.pair (.int .i64) (.int .i64))), .int .i64]], 1, [.v false [.bool]], f⟩
def spec_DeviceOk_ (spec_GuardOk : Nat → (List Int × Int) → Option (Bool)) (spec_MenuOk : Nat → (Int × Bool × Int × Int × ByteArray) → Option (Bool)) (spec_PumpOk : Nat → (Int × Int × Int × Int × Int × Int × Int × Int) → Option (Bool)) (spec_l01In : Nat → Int × Int × Int → Option (Bool)) (k : Nat) : (Int × Int × Int × Int × Int × Int × Int × Int × List Int × Int × Int × Bool × Int × Int × ByteArray × (List (Int × (Int × Int))) × Int) → Option (Bool)
  | (a0, a1, a2, a3, a4, a5, a6, a7, a8, a9, a10, a11, a12, a13, a14, a15, a16) =>
  (spec_PumpOk k (a0, (a1, (a2, (a3, (a4, (a5, (a6, a7)))))))).bind fun v0 =>
  if v0 = true then
   (spec_GuardOk k (a8, a9)).bind fun v1 =>
   if v1 = true then
    (spec_MenuOk k (a10, (a11, (a12, (a13, a14))))).bind fun v2 =>
    if v2 = true then
     if ((List.length a15 : Nat) : Int) ≤ 200 then
      (spec_l01In k (a16, (0, 1000000000))).bind fun v3 =>
      some v3
     else
      some false
    else
     some false
   else
    some false
  else
   some false
noncomputable def g_spec_DeviceOk : (Int × Int × Int × Int × Int × Int × Int × Int × List Int × Int × Int × Bool × Int × Int × ByteArray × (List (Int × (Int × Int))) × Int) → Option (Bool) := spec_DeviceOk_ (fun _ => g_spec_GuardOk) (fun _ => g_spec_MenuOk) (fun _ => g_spec_PumpOk) (fun _ => g_spec_l01In) 0
theorem e_spec_DeviceOk : ∀ x b, g_spec_DeviceOk x = some b → ∃ k, spec_DeviceOk_ (fun _ => g_spec_GuardOk) (fun _ => g_spec_MenuOk) (fun _ => g_spec_PumpOk) (fun _ => g_spec_l01In) k x = some b := fun x b h => ⟨0, h⟩
/- spec_l18Copy -/
def con_spec_l18Copy (f : Nat → (Int × Int × Int × Int × Int × Int × Int × Int × List Int × Int × Int × Bool × Int × Int × ByteArray × (List (Int × (Int × Int))) × Int) → Option ((Int × Int × Int × Int × Int × Int × Int × Int × List Int × Int × Int × Bool × Int × Int × ByteArray × (List (Int × (Int × Int))) × Int))) : Con := ⟨[.agg [.int .i64, .int .i64, .int .i64, .int .i64, .int .i64, .int .i64, .int .i64, .int .i64, .sl (.int .i64), .int .i64, .int .i64, .bool, .int .i64, .int .i64, .str, .sl (.pair (.int .i64) (.pair (.int .i64) (.int .i64))), .int .i64]], 1, [.v true [.int .i64, .int .i64, .int .i64, .int .i64, .int .i64, .int .i64, .int .i64, .int .i64, .own (.int .i64) 3, .int .i64, .int .i64, .bool, .int .i64, .int .i64, .str, .own (.pair (.int .i64) (.pair (.int .i64) (.int .i64))) 96, .int .i64]], f⟩
def spec_l18Copy_ (spec_l16Copy : Nat → (List Int × Int) → Option ((List Int × Int))) (k : Nat) : (Int × Int × Int × Int × Int × Int × Int × Int × List Int × Int × Int × Bool × Int × Int × ByteArray × (List (Int × (Int × Int))) × Int) → Option ((Int × Int × Int × Int × Int × Int × Int × Int × List Int × Int × Int × Bool × Int × Int × ByteArray × (List (Int × (Int × Int))) × Int))
  | (a0, a1, a2, a3, a4, a5, a6, a7, a8, a9, a10, a11, a12, a13, a14, a15, a16) =>
  (spec_l16Copy k (a8, a9)).bind fun v0 =>
  if (((List.length ([] : List (Int × (Int × Int))) + List.length a15 : Nat) : Int) * ((24 : Nat) : Int)) ≤ 140737488355328 then some (a0, (a1, (a2, (a3, (a4, (a5, (a6, (a7, (v0.1, (v0.2, (a10, (a11, (a12, (a13, (a14, ((([] : List (Int × (Int × Int))) ++ a15), a16)))))))))))))))) else none
noncomputable def g_spec_l18Copy : (Int × Int × Int × Int × Int × Int × Int × Int × List Int × Int × Int × Bool × Int × Int × ByteArray × (List (Int × (Int × Int))) × Int) → Option ((Int × Int × Int × Int × Int × Int × Int × Int × List Int × Int × Int × Bool × Int × Int × ByteArray × (List (Int × (Int × Int))) × Int)) := spec_l18Copy_ (fun _ => g_spec_l16Copy) 0
theorem e_spec_l18Copy : ∀ x b, g_spec_l18Copy x = some b → ∃ k, spec_l18Copy_ (fun _ => g_spec_l16Copy) k x = some b := fun x b h => ⟨0, h⟩
/- spec_TickDevice -/
def con_spec_TickDevice (f : Nat → (Int × Int × Int × Int × Int × Int × Int × Int × List Int × Int × Int × Bool × Int × Int × ByteArray × (List (Int × (Int × Int))) × Int) × (Int × ByteArray × ByteArray) → Option ((Int × Int × Int × Int × Int × Int × Int × Int × List Int × Int × Int × Bool × Int × Int × ByteArray × (List (Int × (Int × Int))) × Int))) : Con := ⟨[.agg [.int .i64, .int .i64, .int .i64, .int .i64, .int .i64, .int .i64, .int .i64, .int .i64, .sl (.int .i64), .int .i64, .int .i64, .bool, .int .i64, .int .i64, .str, .sl (.pair (.int .i64) (.pair (.int .i64) (.int .i64))), .int .i64], .agg [.int .i64, .str, .str]], 1, [.v true [.int .i64, .int .i64, .int .i64, .int .i64, .int .i64, .int .i64, .int .i64, .int .i64, .own (.int .i64) 3, .int .i64, .int .i64, .bool, .int .i64, .int .i64, .str, .own (.pair (.int .i64) (.pair (.int .i64) (.int .i64))) 96, .int .i64]], f⟩
def spec_TickDevice_L13 (spec_Allow : Nat → (List Int × Int) × Int → Option (Int)) (spec_DeviceOk : Nat → (Int × Int × Int × Int × Int × Int × Int × Int × List Int × Int × Int × Bool × Int × Int × ByteArray × (List (Int × (Int × Int))) × Int) → Option (Bool)) (spec_Feel : Nat → (List Int × Int) × Int × Bool → Option ((List Int × Int))) (spec_Give : Nat → (Int × Int × Int × Int × Int × Int × Int × Int) × Int → Option ((Int × Int × Int × Int × Int × Int × Int × Int))) (spec_InOk : Nat → (Int × ByteArray × ByteArray) → Option (Bool)) (spec_Pass : Nat → (List Int × Int) × Int → Option ((List Int × Int))) (spec_PressAll : Nat → (Int × Bool × Int × Int × ByteArray) × ByteArray → Option ((Int × Bool × Int × Int × ByteArray) × ((List (Int × (Int × (Int × Int))))))) (spec_ReadOrder : Nat → ByteArray → Option ((Int × Int × Int × Int) × Bool)) (spec_Take : Nat → (Int × Int × Int × Int × Int × Int × Int × Int) × (Int × Int × Int × Int) → Option ((Int × Int × Int × Int × Int × Int × Int × Int) × Bool)) (spec_Wants : Nat → (Int × Int × Int × Int × Int × Int × Int × Int) → Option (Int)) (spec_l18Copy : Nat → (Int × Int × Int × Int × Int × Int × Int × Int × List Int × Int × Int × Bool × Int × Int × ByteArray × (List (Int × (Int × Int))) × Int) → Option ((Int × Int × Int × Int × Int × Int × Int × Int × List Int × Int × Int × Bool × Int × Int × ByteArray × (List (Int × (Int × Int))) × Int))) : Nat → Bool × Int × List Int × (List (Int × (Int × Int))) × Int × Int × Int × Int × Int × Int × Int × Int × Int × Int × Bool × Int × Int × ByteArray × Int × Int × ByteArray × ByteArray × Int × Int × Int × Int × Int × Int × Int × Int × Int × Int × Bool × Int × Int × ByteArray × Int × Int × Int × Int × Int × Int × Int × Int × Int × Int × Int × Bool × Int × Int × ByteArray × Int × (List (Int × (Int × (Int × Int)))) × List Int × List Int × List Int × (List (Int × (Int × Int))) × Unit → Option ((Int × Int × Int × Int × Int × Int × Int × Int × List Int × Int × Int × Bool × Int × Int × ByteArray × (List (Int × (Int × Int))) × Int))
  | 0, _ => none
  | k + 1, (b0, b1, b2, b3, b4, b5, b6, b7, b8, b9, b10, b11, b12, b13, b14, b15, b16, b17, b18, b19, b20, b21, b22, b23, b24, b25, b26, b27, b28, b29, b30, b31, b32, b33, b34, b35, b36, b37, b38, b39, b40, b41, b42, b43, b44, b45, b46, b47, b48, b49, b50, b51, b52, b53, b54, b55, b56, ()) =>
    if b1 < ((List.length b52 : Nat) : Int) then
     if 0 ≤ b1 then
      if b1 < ((List.length b52 : Nat) : Int) then
       if (List.getD b52 (Int.toNat b1) (0, (0, (0, 0)))).1 = 5 then
        spec_TickDevice_L13 spec_Allow spec_DeviceOk spec_Feel spec_Give spec_InOk spec_Pass spec_PressAll spec_ReadOrder spec_Take spec_Wants spec_l18Copy k (true, (wrap64 (b1 + 1)), b2, b3, b4, b5, b6, b7, b8, b9, b10, b11, b12, b13, b14, b15, b16, b17, b18, b19, b20, b21, b22, b23, b24, b25, b26, b27, b28, b29, b30, b31, b32, b33, b34, b35, b36, b37, b38, b39, b40, b41, b42, b43, b44, b45, b46, b47, b48, b49, b50, b51, b52, b53, b54, b55, b56, ())
       else
        if 0 ≤ b1 then
         if b1 < ((List.length b52 : Nat) : Int) then (spec_Take k ((b37, (b38, (b39, (b40, (b41, (b42, (b43, b44))))))), (List.getD b52 (Int.toNat b1) (0, (0, (0, 0)))))).bind fun v0 =>
          if v0.2 = true then
           spec_TickDevice_L13 spec_Allow spec_DeviceOk spec_Feel spec_Give spec_InOk spec_Pass spec_PressAll spec_ReadOrder spec_Take spec_Wants spec_l18Copy k (b0, (wrap64 (b1 + 1)), b2, b3, b4, b5, b6, b7, b8, b9, b10, b11, b12, b13, b14, b15, b16, b17, b18, b19, b20, b21, b22, b23, b24, b25, b26, b27, b28, b29, b30, b31, b32, b33, b34, b35, b36, v0.1.1, v0.1.2.1, v0.1.2.2.1, v0.1.2.2.2.1, v0.1.2.2.2.2.1, v0.1.2.2.2.2.2.1, v0.1.2.2.2.2.2.2.1, v0.1.2.2.2.2.2.2.2, b45, b46, b47, b48, b49, b50, b51, b52, b53, b54, b55, b56, ())
          else
           spec_TickDevice_L13 spec_Allow spec_DeviceOk spec_Feel spec_Give spec_InOk spec_Pass spec_PressAll spec_ReadOrder spec_Take spec_Wants spec_l18Copy k (b0, (wrap64 (b1 + 1)), b2, b3, b4, b5, b6, b7, b8, b9, b10, b11, b12, b13, b14, b15, b16, b17, b18, b19, b20, b21, b22, b23, b24, b25, b26, b27, b28, b29, b30, b31, b32, b33, b34, b35, b36, v0.1.1, v0.1.2.1, v0.1.2.2.1, v0.1.2.2.2.1, v0.1.2.2.2.2.1, v0.1.2.2.2.2.2.1, v0.1.2.2.2.2.2.2.1, v0.1.2.2.2.2.2.2.2, b45, b46, b47, b48, b49, b50, (wrap64 (b51 + 1)), b52, b53, b54, b55, b56, ()) else none
        else
         none
      else
       none
     else
      none
    else
     (spec_Feel k ((b2, b12), (b19, b0))).bind fun v1 =>
     (spec_Wants k (b37, (b38, (b39, (b40, (b41, (b42, (b43, b44)))))))).bind fun v2 =>
     (spec_Allow k (v1, v2)).bind fun v3 =>
     if v1.2 = 0 then
      (spec_Give k ((b37, (b38, (b39, (b40, (b41, (b42, (b43, b44))))))), v3)).bind fun v4 =>
      (spec_Pass k (v1, v3)).bind fun v5 =>
      if (((List.length b56 + List.length [(v3, (v5.2, v4.1))] : Nat) : Int) * ((24 : Nat) : Int)) ≤ 140737488355328 then some (v4.1, (v4.2.1, (v4.2.2.1, (v4.2.2.2.1, (v4.2.2.2.2.1, (v4.2.2.2.2.2.1, (v4.2.2.2.2.2.2.1, (v4.2.2.2.2.2.2.2, (v5.1, (v5.2, (b46, (b47, (b48, (b49, (b50, ((b56 ++ [(v3, (v5.2, v4.1))]), b51)))))))))))))))) else none
     else
      (spec_Pass k (v1, v3)).bind fun v6 =>
      if (((List.length b56 + List.length [(v3, (v6.2, b37))] : Nat) : Int) * ((24 : Nat) : Int)) ≤ 140737488355328 then some (b37, (b38, (b39, (b40, (b41, (b42, (b43, (b44, (v6.1, (v6.2, (b46, (b47, (b48, (b49, (b50, ((b56 ++ [(v3, (v6.2, b37))]), b51)))))))))))))))) else none
def spec_TickDevice_ (spec_Allow : Nat → (List Int × Int) × Int → Option (Int)) (spec_DeviceOk : Nat → (Int × Int × Int × Int × Int × Int × Int × Int × List Int × Int × Int × Bool × Int × Int × ByteArray × (List (Int × (Int × Int))) × Int) → Option (Bool)) (spec_Feel : Nat → (List Int × Int) × Int × Bool → Option ((List Int × Int))) (spec_Give : Nat → (Int × Int × Int × Int × Int × Int × Int × Int) × Int → Option ((Int × Int × Int × Int × Int × Int × Int × Int))) (spec_InOk : Nat → (Int × ByteArray × ByteArray) → Option (Bool)) (spec_Pass : Nat → (List Int × Int) × Int → Option ((List Int × Int))) (spec_PressAll : Nat → (Int × Bool × Int × Int × ByteArray) × ByteArray → Option ((Int × Bool × Int × Int × ByteArray) × ((List (Int × (Int × (Int × Int))))))) (spec_ReadOrder : Nat → ByteArray → Option ((Int × Int × Int × Int) × Bool)) (spec_Take : Nat → (Int × Int × Int × Int × Int × Int × Int × Int) × (Int × Int × Int × Int) → Option ((Int × Int × Int × Int × Int × Int × Int × Int) × Bool)) (spec_Wants : Nat → (Int × Int × Int × Int × Int × Int × Int × Int) → Option (Int)) (spec_l18Copy : Nat → (Int × Int × Int × Int × Int × Int × Int × Int × List Int × Int × Int × Bool × Int × Int × ByteArray × (List (Int × (Int × Int))) × Int) → Option ((Int × Int × Int × Int × Int × Int × Int × Int × List Int × Int × Int × Bool × Int × Int × ByteArray × (List (Int × (Int × Int))) × Int))) (k : Nat) : (Int × Int × Int × Int × Int × Int × Int × Int × List Int × Int × Int × Bool × Int × Int × ByteArray × (List (Int × (Int × Int))) × Int) × (Int × ByteArray × ByteArray) → Option ((Int × Int × Int × Int × Int × Int × Int × Int × List Int × Int × Int × Bool × Int × Int × ByteArray × (List (Int × (Int × Int))) × Int))
  | ((a0, a1, a2, a3, a4, a5, a6, a7, a8, a9, a10, a11, a12, a13, a14, a15, a16), (a17, a18, a19)) =>
  (spec_l18Copy k (a0, (a1, (a2, (a3, (a4, (a5, (a6, (a7, (a8, (a9, (a10, (a11, (a12, (a13, (a14, (a15, a16))))))))))))))))).bind fun v0 =>
  (spec_DeviceOk k (a0, (a1, (a2, (a3, (a4, (a5, (a6, (a7, (a8, (a9, (a10, (a11, (a12, (a13, (a14, (a15, a16))))))))))))))))).bind fun v1 =>
  if v1 = true then
   (spec_InOk k (a17, (a18, a19))).bind fun v2 =>
   if v2 = true then
    if ((List.length a15 : Nat) : Int) = 200 then
     some v0
    else
     if 999999900 < a16 then
      some v0
     else
      (spec_PressAll k ((a10, (a11, (a12, (a13, a14)))), a18)).bind fun v3 =>
      if a19 = (⟨#[]⟩ : ByteArray) then
       spec_TickDevice_L13 spec_Allow spec_DeviceOk spec_Feel spec_Give spec_InOk spec_Pass spec_PressAll spec_ReadOrder spec_Take spec_Wants spec_l18Copy k (false, 0, a8, a15, a0, a1, a2, a3, a4, a5, a6, a7, a9, a10, a11, a12, a13, a14, a16, a17, a18, a19, 0, 0, 0, 0, 0, 0, 0, 0, 0, 0, false, 0, 0, (⟨#[]⟩ : ByteArray), 0, v0.1, v0.2.1, v0.2.2.1, v0.2.2.2.1, v0.2.2.2.2.1, v0.2.2.2.2.2.1, v0.2.2.2.2.2.2.1, v0.2.2.2.2.2.2.2.1, v0.2.2.2.2.2.2.2.2.2.1, v3.1.1, v3.1.2.1, v3.1.2.2.1, v3.1.2.2.2.1, v3.1.2.2.2.2, v0.2.2.2.2.2.2.2.2.2.2.2.2.2.2.2.2, v3.2, [], [], v0.2.2.2.2.2.2.2.2.1, v0.2.2.2.2.2.2.2.2.2.2.2.2.2.2.2.1, ())
      else
       (spec_ReadOrder k a19).bind fun v4 =>
       if v4.2 = true then
        if (((List.length v3.2 + List.length [v4.1] : Nat) : Int) * ((32 : Nat) : Int)) ≤ 140737488355328 then spec_TickDevice_L13 spec_Allow spec_DeviceOk spec_Feel spec_Give spec_InOk spec_Pass spec_PressAll spec_ReadOrder spec_Take spec_Wants spec_l18Copy k (false, 0, a8, a15, a0, a1, a2, a3, a4, a5, a6, a7, a9, a10, a11, a12, a13, a14, a16, a17, a18, a19, 0, 0, 0, 0, 0, 0, 0, 0, 0, 0, false, 0, 0, (⟨#[]⟩ : ByteArray), 0, v0.1, v0.2.1, v0.2.2.1, v0.2.2.2.1, v0.2.2.2.2.1, v0.2.2.2.2.2.1, v0.2.2.2.2.2.2.1, v0.2.2.2.2.2.2.2.1, v0.2.2.2.2.2.2.2.2.2.1, v3.1.1, v3.1.2.1, v3.1.2.2.1, v3.1.2.2.2.1, v3.1.2.2.2.2, v0.2.2.2.2.2.2.2.2.2.2.2.2.2.2.2.2, (v3.2 ++ [v4.1]), [], [], v0.2.2.2.2.2.2.2.2.1, v0.2.2.2.2.2.2.2.2.2.2.2.2.2.2.2.1, ()) else none
       else
        spec_TickDevice_L13 spec_Allow spec_DeviceOk spec_Feel spec_Give spec_InOk spec_Pass spec_PressAll spec_ReadOrder spec_Take spec_Wants spec_l18Copy k (false, 0, a8, a15, a0, a1, a2, a3, a4, a5, a6, a7, a9, a10, a11, a12, a13, a14, a16, a17, a18, a19, 0, 0, 0, 0, 0, 0, 0, 0, 0, 0, false, 0, 0, (⟨#[]⟩ : ByteArray), 0, v0.1, v0.2.1, v0.2.2.1, v0.2.2.2.1, v0.2.2.2.2.1, v0.2.2.2.2.2.1, v0.2.2.2.2.2.2.1, v0.2.2.2.2.2.2.2.1, v0.2.2.2.2.2.2.2.2.2.1, v3.1.1, v3.1.2.1, v3.1.2.2.1, v3.1.2.2.2.1, v3.1.2.2.2.2, (wrap64 (v0.2.2.2.2.2.2.2.2.2.2.2.2.2.2.2.2 + 1)), v3.2, [], [], v0.2.2.2.2.2.2.2.2.1, v0.2.2.2.2.2.2.2.2.2.2.2.2.2.2.2.1, ())
   else
    some v0
  else
   some v0
noncomputable def g_spec_TickDevice : (Int × Int × Int × Int × Int × Int × Int × Int × List Int × Int × Int × Bool × Int × Int × ByteArray × (List (Int × (Int × Int))) × Int) × (Int × ByteArray × ByteArray) → Option ((Int × Int × Int × Int × Int × Int × Int × Int × List Int × Int × Int × Bool × Int × Int × ByteArray × (List (Int × (Int × Int))) × Int)) := evG (spec_TickDevice_ (fun _ => g_spec_Allow) (fun _ => g_spec_DeviceOk) (fun _ => g_spec_Feel) (fun _ => g_spec_Give) (fun _ => g_spec_InOk) (fun _ => g_spec_Pass) (fun _ => g_spec_PressAll) (fun _ => g_spec_ReadOrder) (fun _ => g_spec_Take) (fun _ => g_spec_Wants) (fun _ => g_spec_l18Copy))
theorem e_spec_TickDevice : ∀ x b, g_spec_TickDevice x = some b → ∃ k, spec_TickDevice_ (fun _ => g_spec_Allow) (fun _ => g_spec_DeviceOk) (fun _ => g_spec_Feel) (fun _ => g_spec_Give) (fun _ => g_spec_InOk) (fun _ => g_spec_Pass) (fun _ => g_spec_PressAll) (fun _ => g_spec_ReadOrder) (fun _ => g_spec_Take) (fun _ => g_spec_Wants) (fun _ => g_spec_l18Copy) k x = some b := evG_e _
/- spec_PumpNew -/
def con_spec_PumpNew (f : Nat → Unit → Option ((Int × Int × Int × Int × Int × Int × Int × Int))) : Con := ⟨[], 1, [.v true [.int .i64, .int .i64, .int .i64, .int .i64, .int .i64, .int .i64, .int .i64, .int .i64]], f⟩
def spec_PumpNew_ (k : Nat) : Unit → Option ((Int × Int × Int × Int × Int × Int × Int × Int))
  | () =>
  some (0, (0, (1, (0, (0, (0, (0, 0)))))))
noncomputable def g_spec_PumpNew : Unit → Option ((Int × Int × Int × Int × Int × Int × Int × Int)) := spec_PumpNew_  0
theorem e_spec_PumpNew : ∀ x b, g_spec_PumpNew x = some b → ∃ k, spec_PumpNew_  k x = some b := fun x b h => ⟨0, h⟩
/- spec_DeviceNew -/
def con_spec_DeviceNew (f : Nat → Unit → Option ((Int × Int × Int × Int × Int × Int × Int × Int × List Int × Int × Int × Bool × Int × Int × ByteArray × (List (Int × (Int × Int))) × Int))) : Con := ⟨[], 1, [.v true [.int .i64, .int .i64, .int .i64, .int .i64, .int .i64, .int .i64, .int .i64, .int .i64, .own (.int .i64) 3, .int .i64, .int .i64, .bool, .int .i64, .int .i64, .str, .own (.pair (.int .i64) (.pair (.int .i64) (.int .i64))) 96, .int .i64]], f⟩
def spec_DeviceNew_ (spec_MenuNew : Nat → Unit → Option ((Int × Bool × Int × Int × ByteArray))) (spec_PumpNew : Nat → Unit → Option ((Int × Int × Int × Int × Int × Int × Int × Int))) (k : Nat) : Unit → Option ((Int × Int × Int × Int × Int × Int × Int × Int × List Int × Int × Int × Bool × Int × Int × ByteArray × (List (Int × (Int × Int))) × Int))
  | () =>
  (spec_PumpNew k ()).bind fun v0 =>
  (spec_MenuNew k ()).bind fun v1 =>
  some (v0.1, (v0.2.1, (v0.2.2.1, (v0.2.2.2.1, (v0.2.2.2.2.1, (v0.2.2.2.2.2.1, (v0.2.2.2.2.2.2.1, (v0.2.2.2.2.2.2.2, (([] : List Int), (0, (v1.1, (v1.2.1, (v1.2.2.1, (v1.2.2.2.1, (v1.2.2.2.2, (([] : List (Int × (Int × Int))), 0))))))))))))))))
noncomputable def g_spec_DeviceNew : Unit → Option ((Int × Int × Int × Int × Int × Int × Int × Int × List Int × Int × Int × Bool × Int × Int × ByteArray × (List (Int × (Int × Int))) × Int)) := spec_DeviceNew_ (fun _ => g_spec_MenuNew) (fun _ => g_spec_PumpNew) 0
theorem e_spec_DeviceNew : ∀ x b, g_spec_DeviceNew x = some b → ∃ k, spec_DeviceNew_ (fun _ => g_spec_MenuNew) (fun _ => g_spec_PumpNew) k x = some b := fun x b h => ⟨0, h⟩
/- laws_FnTicks -/
def con_laws_FnTicks (f : Nat → List Int → Option (Bool)) : Con := ⟨[.c (.sl (.int .u8))], 1, [.v false [.bool]], f⟩
def laws_FnTicks_L7 (impl_DeviceNew : Nat → Unit → Option ((Int × Int × Int × Int × Int × Int × Int × Int × List Int × Int × Int × Bool × Int × Int × ByteArray × (List (Int × (Int × Int))) × Int))) (impl_DeviceOk : Nat → (Int × Int × Int × Int × Int × Int × Int × Int × List Int × Int × Int × Bool × Int × Int × ByteArray × (List (Int × (Int × Int))) × Int) → Option (Bool)) (impl_InOk : Nat → (Int × ByteArray × ByteArray) → Option (Bool)) (impl_RunDevice : Nat → ((List (Int × (ByteArray × ByteArray)))) → Option ((Int × Int × Int × Int × Int × Int × Int × Int × List Int × Int × Int × Bool × Int × Int × ByteArray × (List (Int × (Int × Int))) × Int) × Bool)) (impl_TickDevice : Nat → (Int × Int × Int × Int × Int × Int × Int × Int × List Int × Int × Int × Bool × Int × Int × ByteArray × (List (Int × (Int × Int))) × Int) × (Int × ByteArray × ByteArray) → Option ((Int × Int × Int × Int × Int × Int × Int × Int × List Int × Int × Int × Bool × Int × Int × ByteArray × (List (Int × (Int × Int))) × Int))) (laws_big : Nat → List Int → Option (Bool)) (laws_sameTicks : Nat → ((List (Int × (Int × Int)))) × ((List (Int × (Int × Int)))) → Option (Bool)) (spec_DeviceNew : Nat → Unit → Option ((Int × Int × Int × Int × Int × Int × Int × Int × List Int × Int × Int × Bool × Int × Int × ByteArray × (List (Int × (Int × Int))) × Int))) (spec_DrawIns : Nat → List Int → Option (((List (Int × (ByteArray × ByteArray)))))) (spec_TickDevice : Nat → (Int × Int × Int × Int × Int × Int × Int × Int × List Int × Int × Int × Bool × Int × Int × ByteArray × (List (Int × (Int × Int))) × Int) × (Int × ByteArray × ByteArray) → Option ((Int × Int × Int × Int × Int × Int × Int × Int × List Int × Int × Int × Bool × Int × Int × ByteArray × (List (Int × (Int × Int))) × Int))) : Nat → Int × (List (Int × (ByteArray × ByteArray))) × Int × Int × Int × Int × Int × Int × Int × Int × Int × Int × Bool × Int × Int × ByteArray × Int × Int × Int × Int × Int × Int × Int × Int × Int × Int × Int × Bool × Int × Int × ByteArray × Int × List Int × (List (Int × (Int × Int))) × List Int × (List (Int × (Int × Int))) × Unit → Option (Bool)
  | 0, _ => none
  | k + 1, (b0, b1, b2, b3, b4, b5, b6, b7, b8, b9, b10, b11, b12, b13, b14, b15, b16, b17, b18, b19, b20, b21, b22, b23, b24, b25, b26, b27, b28, b29, b30, b31, b32, b33, b34, b35, ()) =>
    if b0 < ((List.length b1 : Nat) : Int) then
     if 0 ≤ b0 then
      if b0 < ((List.length b1 : Nat) : Int) then (impl_TickDevice k ((b2, (b3, (b4, (b5, (b6, (b7, (b8, (b9, (b32, (b10, (b11, (b12, (b13, (b14, (b15, (b33, b16)))))))))))))))), (List.getD b1 (Int.toNat b0) (0, ((⟨#[]⟩ : ByteArray), (⟨#[]⟩ : ByteArray)))))).bind fun v0 =>
       if 0 ≤ b0 then
        if b0 < ((List.length b1 : Nat) : Int) then (spec_TickDevice k ((b17, (b18, (b19, (b20, (b21, (b22, (b23, (b24, (b34, (b25, (b26, (b27, (b28, (b29, (b30, (b35, b31)))))))))))))))), (List.getD b1 (Int.toNat b0) (0, ((⟨#[]⟩ : ByteArray), (⟨#[]⟩ : ByteArray)))))).bind fun v1 =>
         if v0.1 = v1.1 then
          if v0.2.1 = v1.2.1 then
           if v0.2.2.1 = v1.2.2.1 then
            if v0.2.2.2.1 = v1.2.2.2.1 then
             if v0.2.2.2.2.1 = v1.2.2.2.2.1 then
              if v0.2.2.2.2.2.1 = v1.2.2.2.2.2.1 then
               if v0.2.2.2.2.2.2.1 = v1.2.2.2.2.2.2.1 then
                if v0.2.2.2.2.2.2.2.1 = v1.2.2.2.2.2.2.2.1 then
                 if v0.2.2.2.2.2.2.2.2.2.2.1 = v1.2.2.2.2.2.2.2.2.2.2.1 then
                  if (v0.2.2.2.2.2.2.2.2.2.2.2.1 == v1.2.2.2.2.2.2.2.2.2.2.2.1) = true then
                   if v0.2.2.2.2.2.2.2.2.2.2.2.2.1 = v1.2.2.2.2.2.2.2.2.2.2.2.2.1 then
                    if v0.2.2.2.2.2.2.2.2.2.2.2.2.2.1 = v1.2.2.2.2.2.2.2.2.2.2.2.2.2.1 then
                     if v0.2.2.2.2.2.2.2.2.2.2.2.2.2.2.1 = v1.2.2.2.2.2.2.2.2.2.2.2.2.2.2.1 then
                      if v0.2.2.2.2.2.2.2.2.2.2.2.2.2.2.2.2 = v1.2.2.2.2.2.2.2.2.2.2.2.2.2.2.2.2 then
                       (laws_sameTicks k (v0.2.2.2.2.2.2.2.2.2.2.2.2.2.2.2.1, v1.2.2.2.2.2.2.2.2.2.2.2.2.2.2.2.1)).bind fun v2 =>
                       if v2 = true then
                        (impl_DeviceOk k v0).bind fun v3 =>
                        if v3 = true then
                         laws_FnTicks_L7 impl_DeviceNew impl_DeviceOk impl_InOk impl_RunDevice impl_TickDevice laws_big laws_sameTicks spec_DeviceNew spec_DrawIns spec_TickDevice k ((wrap64 (b0 + 1)), b1, v0.1, v0.2.1, v0.2.2.1, v0.2.2.2.1, v0.2.2.2.2.1, v0.2.2.2.2.2.1, v0.2.2.2.2.2.2.1, v0.2.2.2.2.2.2.2.1, v0.2.2.2.2.2.2.2.2.2.1, v0.2.2.2.2.2.2.2.2.2.2.1, v0.2.2.2.2.2.2.2.2.2.2.2.1, v0.2.2.2.2.2.2.2.2.2.2.2.2.1, v0.2.2.2.2.2.2.2.2.2.2.2.2.2.1, v0.2.2.2.2.2.2.2.2.2.2.2.2.2.2.1, v0.2.2.2.2.2.2.2.2.2.2.2.2.2.2.2.2, v1.1, v1.2.1, v1.2.2.1, v1.2.2.2.1, v1.2.2.2.2.1, v1.2.2.2.2.2.1, v1.2.2.2.2.2.2.1, v1.2.2.2.2.2.2.2.1, v1.2.2.2.2.2.2.2.2.2.1, v1.2.2.2.2.2.2.2.2.2.2.1, v1.2.2.2.2.2.2.2.2.2.2.2.1, v1.2.2.2.2.2.2.2.2.2.2.2.2.1, v1.2.2.2.2.2.2.2.2.2.2.2.2.2.1, v1.2.2.2.2.2.2.2.2.2.2.2.2.2.2.1, v1.2.2.2.2.2.2.2.2.2.2.2.2.2.2.2.2, v0.2.2.2.2.2.2.2.2.1, v0.2.2.2.2.2.2.2.2.2.2.2.2.2.2.2.1, v1.2.2.2.2.2.2.2.2.1, v1.2.2.2.2.2.2.2.2.2.2.2.2.2.2.2.1, ())
                        else
                         some false
                       else
                        some false
                      else
                       some false
                     else
                      some false
                    else
                     some false
                   else
                    some false
                  else
                   some false
                 else
                  some false
                else
                 some false
               else
                some false
              else
               some false
             else
              some false
            else
             some false
           else
            some false
          else
           some false
         else
          some false else none
       else
        none else none
     else
      none
    else
     (impl_RunDevice k b1).bind fun v4 =>
     if (((List.length ([] : List (Int × (ByteArray × ByteArray))) + List.length b1 : Nat) : Int) * ((40 : Nat) : Int)) ≤ 140737488355328 then
      if (((List.length (([] : List (Int × (ByteArray × ByteArray))) ++ b1) + List.length [(16, ((⟨#[]⟩ : ByteArray), (⟨#[]⟩ : ByteArray)))] : Nat) : Int) * ((40 : Nat) : Int)) ≤ 140737488355328 then (impl_RunDevice k ((([] : List (Int × (ByteArray × ByteArray))) ++ b1) ++ [(16, ((⟨#[]⟩ : ByteArray), (⟨#[]⟩ : ByteArray)))])).bind fun v5 =>
       if v4.2 = true then
        if v5.2 = true then
         some false
        else
         if v4.1.1 = b2 then
          if v4.1.2.1 = b3 then
           if v4.1.2.2.1 = b4 then
            if v4.1.2.2.2.1 = b5 then
             if v4.1.2.2.2.2.1 = b6 then
              if v4.1.2.2.2.2.2.1 = b7 then
               if v4.1.2.2.2.2.2.2.1 = b8 then
                if v4.1.2.2.2.2.2.2.2.1 = b9 then
                 (laws_sameTicks k (v4.1.2.2.2.2.2.2.2.2.2.2.2.2.2.2.2.1, b33)).bind fun v6 =>
                 if v6 = true then
                  (impl_InOk k (0, ((⟨#[]⟩ : ByteArray), (⟨#[]⟩ : ByteArray)))).bind fun v7 =>
                  some v7
                 else
                  some false
                else
                 some false
               else
                some false
              else
               some false
             else
              some false
            else
             some false
           else
            some false
          else
           some false
         else
          some false
       else
        some false else none
     else
      none
def laws_FnTicks_ (impl_DeviceNew : Nat → Unit → Option ((Int × Int × Int × Int × Int × Int × Int × Int × List Int × Int × Int × Bool × Int × Int × ByteArray × (List (Int × (Int × Int))) × Int))) (impl_DeviceOk : Nat → (Int × Int × Int × Int × Int × Int × Int × Int × List Int × Int × Int × Bool × Int × Int × ByteArray × (List (Int × (Int × Int))) × Int) → Option (Bool)) (impl_InOk : Nat → (Int × ByteArray × ByteArray) → Option (Bool)) (impl_RunDevice : Nat → ((List (Int × (ByteArray × ByteArray)))) → Option ((Int × Int × Int × Int × Int × Int × Int × Int × List Int × Int × Int × Bool × Int × Int × ByteArray × (List (Int × (Int × Int))) × Int) × Bool)) (impl_TickDevice : Nat → (Int × Int × Int × Int × Int × Int × Int × Int × List Int × Int × Int × Bool × Int × Int × ByteArray × (List (Int × (Int × Int))) × Int) × (Int × ByteArray × ByteArray) → Option ((Int × Int × Int × Int × Int × Int × Int × Int × List Int × Int × Int × Bool × Int × Int × ByteArray × (List (Int × (Int × Int))) × Int))) (laws_big : Nat → List Int → Option (Bool)) (laws_sameTicks : Nat → ((List (Int × (Int × Int)))) × ((List (Int × (Int × Int)))) → Option (Bool)) (spec_DeviceNew : Nat → Unit → Option ((Int × Int × Int × Int × Int × Int × Int × Int × List Int × Int × Int × Bool × Int × Int × ByteArray × (List (Int × (Int × Int))) × Int))) (spec_DrawIns : Nat → List Int → Option (((List (Int × (ByteArray × ByteArray)))))) (spec_TickDevice : Nat → (Int × Int × Int × Int × Int × Int × Int × Int × List Int × Int × Int × Bool × Int × Int × ByteArray × (List (Int × (Int × Int))) × Int) × (Int × ByteArray × ByteArray) → Option ((Int × Int × Int × Int × Int × Int × Int × Int × List Int × Int × Int × Bool × Int × Int × ByteArray × (List (Int × (Int × Int))) × Int))) (k : Nat) : List Int → Option (Bool)
  | a0 =>
  (laws_big k a0).bind fun v0 =>
  if v0 = true then
   some true
  else
   (spec_DrawIns k a0).bind fun v1 =>
   (impl_DeviceNew k ()).bind fun v2 =>
   (spec_DeviceNew k ()).bind fun v3 =>
   laws_FnTicks_L7 impl_DeviceNew impl_DeviceOk impl_InOk impl_RunDevice impl_TickDevice laws_big laws_sameTicks spec_DeviceNew spec_DrawIns spec_TickDevice k (0, v1, v2.1, v2.2.1, v2.2.2.1, v2.2.2.2.1, v2.2.2.2.2.1, v2.2.2.2.2.2.1, v2.2.2.2.2.2.2.1, v2.2.2.2.2.2.2.2.1, v2.2.2.2.2.2.2.2.2.2.1, v2.2.2.2.2.2.2.2.2.2.2.1, v2.2.2.2.2.2.2.2.2.2.2.2.1, v2.2.2.2.2.2.2.2.2.2.2.2.2.1, v2.2.2.2.2.2.2.2.2.2.2.2.2.2.1, v2.2.2.2.2.2.2.2.2.2.2.2.2.2.2.1, v2.2.2.2.2.2.2.2.2.2.2.2.2.2.2.2.2, v3.1, v3.2.1, v3.2.2.1, v3.2.2.2.1, v3.2.2.2.2.1, v3.2.2.2.2.2.1, v3.2.2.2.2.2.2.1, v3.2.2.2.2.2.2.2.1, v3.2.2.2.2.2.2.2.2.2.1, v3.2.2.2.2.2.2.2.2.2.2.1, v3.2.2.2.2.2.2.2.2.2.2.2.1, v3.2.2.2.2.2.2.2.2.2.2.2.2.1, v3.2.2.2.2.2.2.2.2.2.2.2.2.2.1, v3.2.2.2.2.2.2.2.2.2.2.2.2.2.2.1, v3.2.2.2.2.2.2.2.2.2.2.2.2.2.2.2.2, v2.2.2.2.2.2.2.2.2.1, v2.2.2.2.2.2.2.2.2.2.2.2.2.2.2.2.1, v3.2.2.2.2.2.2.2.2.1, v3.2.2.2.2.2.2.2.2.2.2.2.2.2.2.2.1, ())
noncomputable def g_laws_FnTicks : List Int → Option (Bool) := evG (laws_FnTicks_ (fun _ => g_impl_DeviceNew) (fun _ => g_impl_DeviceOk) (fun _ => g_impl_InOk) (fun _ => g_impl_RunDevice) (fun _ => g_impl_TickDevice) (fun _ => g_laws_big) (fun _ => g_laws_sameTicks) (fun _ => g_spec_DeviceNew) (fun _ => g_spec_DrawIns) (fun _ => g_spec_TickDevice))
theorem e_laws_FnTicks : ∀ x b, g_laws_FnTicks x = some b → ∃ k, laws_FnTicks_ (fun _ => g_impl_DeviceNew) (fun _ => g_impl_DeviceOk) (fun _ => g_impl_InOk) (fun _ => g_impl_RunDevice) (fun _ => g_impl_TickDevice) (fun _ => g_laws_big) (fun _ => g_laws_sameTicks) (fun _ => g_spec_DeviceNew) (fun _ => g_spec_DrawIns) (fun _ => g_spec_TickDevice) k x = some b := evG_e _
end Go.Sx.T
