/- Functions of the program as functions of Lean, and that the program keeps to them. -/
import Derived.Test.YtklcjpidbpplkaaGreatFnTopA0
set_option maxRecDepth 100000
set_option linter.unusedVariables false
set_option linter.unusedSimpArgs false
namespace Go.Proofs
end Go.Proofs
namespace Go.Sx.T
open Go Go.Sx Go.Proofs Go.RowKit
/- impl_Allow -/
def con_impl_Allow (f : Nat → (List Int × Int) × Int → Option (Int)) : Con := ⟨[.agg [.sl (.int .i64), .int .i64], .c (.int .i64)], 1, [.v false [.int .i64]], f⟩
def impl_Allow_ (impl_GuardOk : Nat → (List Int × Int) → Option (Bool)) (impl_RoomOf : Nat → (List Int × Int) → Option (Int)) (k : Nat) : (List Int × Int) × Int → Option (Int)
  | ((a0, a1), a2) =>
  (impl_GuardOk k (a0, a1)).bind fun v0 =>
  if v0 = true then
   if a1 = 0 then
    (impl_RoomOf k (a0, a1)).bind fun v1 =>
    some (mx (mn a2 v1) 0)
   else
    some 0
  else
   some 0
noncomputable def g_impl_Allow : (List Int × Int) × Int → Option (Int) := impl_Allow_ (fun _ => g_impl_GuardOk) (fun _ => g_impl_RoomOf) 0
theorem e_impl_Allow : ∀ x b, g_impl_Allow x = some b → ∃ k, impl_Allow_ (fun _ => g_impl_GuardOk) (fun _ => g_impl_RoomOf) k x = some b := fun x b h => ⟨0, h⟩
/- impl_Feel -/
def con_impl_Feel (f : Nat → (List Int × Int) × Int × Bool → Option ((List Int × Int))) : Con := ⟨[.agg [.sl (.int .i64), .int .i64], .c (.int .i64), .c (.bool)], 1, [.v true [.own (.int .i64) 3, .int .i64]], f⟩
def impl_Feel_ (impl_GuardOk : Nat → (List Int × Int) → Option (Bool)) (impl_SenseOk : Nat → Int → Option (Bool)) (impl_copyGuard : Nat → (List Int × Int) → Option ((List Int × Int))) (k : Nat) : (List Int × Int) × Int × Bool → Option ((List Int × Int))
  | ((a0, a1), a2, a3) =>
  (impl_copyGuard k (a0, a1)).bind fun v0 =>
  (impl_GuardOk k (a0, a1)).bind fun v1 =>
  if v1 = true then
   (impl_SenseOk k a2).bind fun v2 =>
   if v2 = true then
    if a3 = true then
     some (v0.1, a2)
    else
     some (v0.1, (ior .i64 v0.2 a2))
   else
    some v0
  else
   some v0
noncomputable def g_impl_Feel : (List Int × Int) × Int × Bool → Option ((List Int × Int)) := impl_Feel_ (fun _ => g_impl_GuardOk) (fun _ => g_impl_SenseOk) (fun _ => g_impl_copyGuard) 0
theorem e_impl_Feel : ∀ x b, g_impl_Feel x = some b → ∃ k, impl_Feel_ (fun _ => g_impl_GuardOk) (fun _ => g_impl_SenseOk) (fun _ => g_impl_copyGuard) k x = some b := fun x b h => ⟨0, h⟩
/- impl_Take -/
def con_impl_Take (f : Nat → (Int × Int × Int × Int × Int × Int × Int × Int) × (Int × Int × Int × Int) → Option ((Int × Int × Int × Int × Int × Int × Int × Int) × Bool)) : Con := ⟨[.agg [.int .i64, .int .i64, .int .i64, .int .i64, .int .i64, .int .i64, .int .i64, .int .i64], .agg [.int .i64, .int .i64, .int .i64, .int .i64]], 2, [.v true [.int .i64, .int .i64, .int .i64, .int .i64, .int .i64, .int .i64, .int .i64, .int .i64], .v false [.bool]], f⟩
def impl_Take_ (impl_OrderOk : Nat → (Int × Int × Int × Int) → Option (Bool)) (impl_PumpOk : Nat → (Int × Int × Int × Int × Int × Int × Int × Int) → Option (Bool)) (k : Nat) : (Int × Int × Int × Int × Int × Int × Int × Int) × (Int × Int × Int × Int) → Option ((Int × Int × Int × Int × Int × Int × Int × Int) × Bool)
  | ((a0, a1, a2, a3, a4, a5, a6, a7), (a8, a9, a10, a11)) =>
  (impl_PumpOk k (a0, (a1, (a2, (a3, (a4, (a5, (a6, a7)))))))).bind fun v0 =>
  if v0 = true then
   (impl_OrderOk k (a8, (a9, (a10, a11)))).bind fun v1 =>
   if v1 = true then
    if a8 = 1 then
     if a0 = 0 then
      some ((1, (a9, (a10, (0, (a11, (a5, (a6, a7))))))), true)
     else
      if a0 = 2 then
       some ((1, (a9, (a10, (0, (a11, (a5, (a6, a7))))))), true)
      else
       some ((a0, (a1, (a2, (a3, (a4, (a5, (a6, a7))))))), false)
    else
     if a8 = 2 then
      if a0 = 1 then
       if a5 = 0 then
        some ((a0, (a1, (a2, (a3, (a4, (a11, (a6, a7))))))), true)
       else
        some ((a0, (a1, (a2, (a3, (a4, (a5, (a6, a7))))))), false)
      else
       if a0 = 2 then
        if a5 = 0 then
         some ((a0, (a1, (a2, (a3, (a4, (a11, (a6, a7))))))), true)
        else
         some ((a0, (a1, (a2, (a3, (a4, (a5, (a6, a7))))))), false)
       else
        some ((a0, (a1, (a2, (a3, (a4, (a5, (a6, a7))))))), false)
     else
      if a8 = 3 then
       if a0 = 1 then
        some ((3, (a1, (a2, (a3, (a4, (a5, (a6, a0))))))), true)
       else
        if a0 = 2 then
         some ((3, (a1, (a2, (a3, (a4, (a5, (a6, a0))))))), true)
        else
         some ((a0, (a1, (a2, (a3, (a4, (a5, (a6, a7))))))), false)
      else
       if a8 = 4 then
        if a0 = 3 then
         some ((a7, (a1, (a2, (a3, (a4, (a5, (a6, 0))))))), true)
        else
         some ((a0, (a1, (a2, (a3, (a4, (a5, (a6, a7))))))), false)
       else
        if a8 = 6 then
         some ((0, (a1, (a2, (a3, (0, (0, (a6, 0))))))), true)
        else
         some ((a0, (a1, (a2, (a3, (a4, (a5, (a6, a7))))))), false)
   else
    some ((a0, (a1, (a2, (a3, (a4, (a5, (a6, a7))))))), false)
  else
   some ((a0, (a1, (a2, (a3, (a4, (a5, (a6, a7))))))), false)
noncomputable def g_impl_Take : (Int × Int × Int × Int × Int × Int × Int × Int) × (Int × Int × Int × Int) → Option ((Int × Int × Int × Int × Int × Int × Int × Int) × Bool) := impl_Take_ (fun _ => g_impl_OrderOk) (fun _ => g_impl_PumpOk) 0
theorem e_impl_Take : ∀ x b, g_impl_Take x = some b → ∃ k, impl_Take_ (fun _ => g_impl_OrderOk) (fun _ => g_impl_PumpOk) k x = some b := fun x b h => ⟨0, h⟩
/- impl_Device__order -/
def con_impl_Device__order (f : Nat → (Int × Int × Int × Int × Int × Int × Int × Int × List Int × Int × Int × Bool × Int × Int × ByteArray × (List (Int × (Int × Int))) × Int) × (Int × Int × Int × Int) → Option (Bool × (Int × Int × Int × Int × Int × Int × Int × Int × Unit × Int × Int × Bool × Int × Int × ByteArray × Unit × Int))) : Con := ⟨[.ptr [.int .i64, .int .i64, .int .i64, .int .i64, .int .i64, .int .i64, .int .i64, .int .i64, .sl (.int .i64), .int .i64, .int .i64, .bool, .int .i64, .int .i64, .str, .sl (.pair (.int .i64) (.pair (.int .i64) (.int .i64))), .int .i64] 37, .agg [.int .i64, .int .i64, .int .i64, .int .i64]], 1, [.v false [.bool], .box [.int .i64, .int .i64, .int .i64, .int .i64, .int .i64, .int .i64, .int .i64, .int .i64, .keep, .int .i64, .int .i64, .bool, .int .i64, .int .i64, .str, .keep, .int .i64] 37], f⟩
def impl_Device__order_ (impl_Take : Nat → (Int × Int × Int × Int × Int × Int × Int × Int) × (Int × Int × Int × Int) → Option ((Int × Int × Int × Int × Int × Int × Int × Int) × Bool)) (k : Nat) : (Int × Int × Int × Int × Int × Int × Int × Int × List Int × Int × Int × Bool × Int × Int × ByteArray × (List (Int × (Int × Int))) × Int) × (Int × Int × Int × Int) → Option (Bool × (Int × Int × Int × Int × Int × Int × Int × Int × Unit × Int × Int × Bool × Int × Int × ByteArray × Unit × Int))
  | ((a0, a1, a2, a3, a4, a5, a6, a7, a8, a9, a10, a11, a12, a13, a14, a15, a16), (a17, a18, a19, a20)) =>
  if a17 = 5 then
   some (true, (a0, (a1, (a2, (a3, (a4, (a5, (a6, (a7, ((), (a9, (a10, (a11, (a12, (a13, (a14, ((), a16)))))))))))))))))
  else
   (impl_Take k ((a0, (a1, (a2, (a3, (a4, (a5, (a6, a7))))))), (a17, (a18, (a19, a20))))).bind fun v0 =>
   some (v0.2, (v0.1.1, (v0.1.2.1, (v0.1.2.2.1, (v0.1.2.2.2.1, (v0.1.2.2.2.2.1, (v0.1.2.2.2.2.2.1, (v0.1.2.2.2.2.2.2.1, (v0.1.2.2.2.2.2.2.2, ((), (a9, (a10, (a11, (a12, (a13, (a14, ((), a16)))))))))))))))))
noncomputable def g_impl_Device__order : (Int × Int × Int × Int × Int × Int × Int × Int × List Int × Int × Int × Bool × Int × Int × ByteArray × (List (Int × (Int × Int))) × Int) × (Int × Int × Int × Int) → Option (Bool × (Int × Int × Int × Int × Int × Int × Int × Int × Unit × Int × Int × Bool × Int × Int × ByteArray × Unit × Int)) := impl_Device__order_ (fun _ => g_impl_Take) 0
theorem e_impl_Device__order : ∀ x b, g_impl_Device__order x = some b → ∃ k, impl_Device__order_ (fun _ => g_impl_Take) k x = some b := fun x b h => ⟨0, h⟩
/- impl_InOk -/
def con_impl_InOk (f : Nat → (Int × ByteArray × ByteArray) → Option (Bool)) : Con := ⟨[.agg [.int .i64, .str, .str]], 1, [.v false [.bool]], f⟩
def impl_InOk_ (impl_SenseOk : Nat → Int → Option (Bool)) (k : Nat) : (Int × ByteArray × ByteArray) → Option (Bool)
  | (a0, a1, a2) =>
  (impl_SenseOk k a0).bind fun v0 =>
  if v0 = true then
   if ((ByteArray.size a1 : Nat) : Int) ≤ 20 then
    some (decide (((ByteArray.size a2 : Nat) : Int) ≤ 40))
   else
    some false
  else
   some false
noncomputable def g_impl_InOk : (Int × ByteArray × ByteArray) → Option (Bool) := impl_InOk_ (fun _ => g_impl_SenseOk) 0
theorem e_impl_InOk : ∀ x b, g_impl_InOk x = some b → ∃ k, impl_InOk_ (fun _ => g_impl_SenseOk) k x = some b := fun x b h => ⟨0, h⟩
/- impl_copyDevice -/
def con_impl_copyDevice (f : Nat → (Int × Int × Int × Int × Int × Int × Int × Int × List Int × Int × Int × Bool × Int × Int × ByteArray × (List (Int × (Int × Int))) × Int) → Option ((Int × Int × Int × Int × Int × Int × Int × Int × List Int × Int × Int × Bool × Int × Int × ByteArray × (List (Int × (Int × Int))) × Int))) : Con := ⟨[.agg [.int .i64, .int .i64, .int .i64, .int .i64, .int .i64, .int .i64, .int .i64, .int .i64, .sl (.int .i64), .int .i64, .int .i64, .bool, .int .i64, .int .i64, .str, .sl (.pair (.int .i64) (.pair (.int .i64) (.int .i64))), .int .i64]], 1, [.v true [.int .i64, .int .i64, .int .i64, .int .i64, .int .i64, .int .i64, .int .i64, .int .i64, .own (.int .i64) 3, .int .i64, .int .i64, .bool, .int .i64, .int .i64, .str, .own (.pair (.int .i64) (.pair (.int .i64) (.int .i64))) 52, .int .i64]], f⟩
def impl_copyDevice_ (impl_copyGuard : Nat → (List Int × Int) → Option ((List Int × Int))) (k : Nat) : (Int × Int × Int × Int × Int × Int × Int × Int × List Int × Int × Int × Bool × Int × Int × ByteArray × (List (Int × (Int × Int))) × Int) → Option ((Int × Int × Int × Int × Int × Int × Int × Int × List Int × Int × Int × Bool × Int × Int × ByteArray × (List (Int × (Int × Int))) × Int))
  | (a0, a1, a2, a3, a4, a5, a6, a7, a8, a9, a10, a11, a12, a13, a14, a15, a16) =>
  (impl_copyGuard k (a8, a9)).bind fun v0 =>
  if (((List.length ([] : List (Int × (Int × Int))) + List.length a15 : Nat) : Int) * ((24 : Nat) : Int)) ≤ 140737488355328 then some (a0, (a1, (a2, (a3, (a4, (a5, (a6, (a7, (v0.1, (v0.2, (a10, (a11, (a12, (a13, (a14, ((([] : List (Int × (Int × Int))) ++ a15), a16)))))))))))))))) else none
noncomputable def g_impl_copyDevice : (Int × Int × Int × Int × Int × Int × Int × Int × List Int × Int × Int × Bool × Int × Int × ByteArray × (List (Int × (Int × Int))) × Int) → Option ((Int × Int × Int × Int × Int × Int × Int × Int × List Int × Int × Int × Bool × Int × Int × ByteArray × (List (Int × (Int × Int))) × Int)) := impl_copyDevice_ (fun _ => g_impl_copyGuard) 0
theorem e_impl_copyDevice : ∀ x b, g_impl_copyDevice x = some b → ∃ k, impl_copyDevice_ (fun _ => g_impl_copyGuard) k x = some b := fun x b h => ⟨0, h⟩
/- impl_TickDevice -/
def con_impl_TickDevice (f : Nat → (Int × Int × Int × Int × Int × Int × Int × Int × List Int × Int × Int × Bool × Int × Int × ByteArray × (List (Int × (Int × Int))) × Int) × (Int × ByteArray × ByteArray) → Option ((Int × Int × Int × Int × Int × Int × Int × Int × List Int × Int × Int × Bool × Int × Int × ByteArray × (List (Int × (Int × Int))) × Int))) : Con := ⟨[.agg [.int .i64, .int .i64, .int .i64, .int .i64, .int .i64, .int .i64, .int .i64, .int .i64, .sl (.int .i64), .int .i64, .int .i64, .bool, .int .i64, .int .i64, .str, .sl (.pair (.int .i64) (.pair (.int .i64) (.int .i64))), .int .i64], .agg [.int .i64, .str, .str]], 1, [.v true [.int .i64, .int .i64, .int .i64, .int .i64, .int .i64, .int .i64, .int .i64, .int .i64, .own (.int .i64) 3, .int .i64, .int .i64, .bool, .int .i64, .int .i64, .str, .own (.pair (.int .i64) (.pair (.int .i64) (.int .i64))) 52, .int .i64]], f⟩
def impl_TickDevice_L7 (impl_Allow : Nat → (List Int × Int) × Int → Option (Int)) (impl_DeviceOk : Nat → (Int × Int × Int × Int × Int × Int × Int × Int × List Int × Int × Int × Bool × Int × Int × ByteArray × (List (Int × (Int × Int))) × Int) → Option (Bool)) (impl_Device__order : Nat → (Int × Int × Int × Int × Int × Int × Int × Int × List Int × Int × Int × Bool × Int × Int × ByteArray × (List (Int × (Int × Int))) × Int) × (Int × Int × Int × Int) → Option (Bool × (Int × Int × Int × Int × Int × Int × Int × Int × Unit × Int × Int × Bool × Int × Int × ByteArray × Unit × Int))) (impl_Feel : Nat → (List Int × Int) × Int × Bool → Option ((List Int × Int))) (impl_Give : Nat → (Int × Int × Int × Int × Int × Int × Int × Int) × Int → Option ((Int × Int × Int × Int × Int × Int × Int × Int))) (impl_InOk : Nat → (Int × ByteArray × ByteArray) → Option (Bool)) (impl_Pass : Nat → (List Int × Int) × Int → Option ((List Int × Int))) (impl_ReadOrder : Nat → ByteArray → Option ((Int × Int × Int × Int) × Bool)) (impl_Wants : Nat → (Int × Int × Int × Int × Int × Int × Int × Int) → Option (Int)) (impl_copyDevice : Nat → (Int × Int × Int × Int × Int × Int × Int × Int × List Int × Int × Int × Bool × Int × Int × ByteArray × (List (Int × (Int × Int))) × Int) → Option ((Int × Int × Int × Int × Int × Int × Int × Int × List Int × Int × Int × Bool × Int × Int × ByteArray × (List (Int × (Int × Int))) × Int))) (impl_isSeen : Nat → ((List (Int × (Int × (Int × Int))))) → Option (Bool)) (impl_ordersOf : Nat → (Int × Bool × Int × Int × ByteArray) × (Int × ByteArray × ByteArray) → Option ((Int × Bool × Int × Int × ByteArray) × ((List (Int × (Int × (Int × Int))))))) : Nat → Int × Int × Int × ByteArray × ByteArray × Int × Int × Int × Int × Int × Int × Int × Int × Int × Int × Bool × Int × Int × ByteArray × Int × Int × Int × Int × Int × Int × Int × Int × Int × Int × Int × Bool × Int × Int × ByteArray × Int × (List (Int × (Int × (Int × Int)))) × List Int × List Int × List Int × (List (Int × (Int × Int))) × Unit → Option ((Int × Int × Int × Int × Int × Int × Int × Int × List Int × Int × Int × Bool × Int × Int × ByteArray × (List (Int × (Int × Int))) × Int))
  | 0, _ => none
  | k + 1, (b0, b1, b2, b3, b4, b5, b6, b7, b8, b9, b10, b11, b12, b13, b14, b15, b16, b17, b18, b19, b20, b21, b22, b23, b24, b25, b26, b27, b28, b29, b30, b31, b32, b33, b34, b35, b36, b37, b38, b39, ()) =>
    if b1 < b0 then
     if 0 ≤ b1 then
      if b1 < ((List.length b35 : Nat) : Int) then (impl_Device__order k ((b20, (b21, (b22, (b23, (b24, (b25, (b26, (b27, (b38, (b28, (b29, (b30, (b31, (b32, (b33, (b39, b34)))))))))))))))), (List.getD b35 (Int.toNat b1) (0, (0, (0, 0)))))).bind fun v0 =>
       if v0.1 = true then
        impl_TickDevice_L7 impl_Allow impl_DeviceOk impl_Device__order impl_Feel impl_Give impl_InOk impl_Pass impl_ReadOrder impl_Wants impl_copyDevice impl_isSeen impl_ordersOf k (b0, (wrap64 (b1 + 1)), b2, b3, b4, b5, b6, b7, b8, b9, b10, b11, b12, b13, b14, b15, b16, b17, b18, b19, v0.2.1, v0.2.2.1, v0.2.2.2.1, v0.2.2.2.2.1, v0.2.2.2.2.2.1, v0.2.2.2.2.2.2.1, v0.2.2.2.2.2.2.2.1, v0.2.2.2.2.2.2.2.2.1, v0.2.2.2.2.2.2.2.2.2.2.1, v0.2.2.2.2.2.2.2.2.2.2.2.1, v0.2.2.2.2.2.2.2.2.2.2.2.2.1, v0.2.2.2.2.2.2.2.2.2.2.2.2.2.1, v0.2.2.2.2.2.2.2.2.2.2.2.2.2.2.1, v0.2.2.2.2.2.2.2.2.2.2.2.2.2.2.2.1, v0.2.2.2.2.2.2.2.2.2.2.2.2.2.2.2.2.2, b35, b36, b37, b38, b39, ())
       else
        impl_TickDevice_L7 impl_Allow impl_DeviceOk impl_Device__order impl_Feel impl_Give impl_InOk impl_Pass impl_ReadOrder impl_Wants impl_copyDevice impl_isSeen impl_ordersOf k (b0, (wrap64 (b1 + 1)), b2, b3, b4, b5, b6, b7, b8, b9, b10, b11, b12, b13, b14, b15, b16, b17, b18, b19, v0.2.1, v0.2.2.1, v0.2.2.2.1, v0.2.2.2.2.1, v0.2.2.2.2.2.1, v0.2.2.2.2.2.2.1, v0.2.2.2.2.2.2.2.1, v0.2.2.2.2.2.2.2.2.1, v0.2.2.2.2.2.2.2.2.2.2.1, v0.2.2.2.2.2.2.2.2.2.2.2.1, v0.2.2.2.2.2.2.2.2.2.2.2.2.1, v0.2.2.2.2.2.2.2.2.2.2.2.2.2.1, v0.2.2.2.2.2.2.2.2.2.2.2.2.2.2.1, v0.2.2.2.2.2.2.2.2.2.2.2.2.2.2.2.1, (wrap64 (v0.2.2.2.2.2.2.2.2.2.2.2.2.2.2.2.2.2 + 1)), b35, b36, b37, b38, b39, ()) else none
     else
      none
    else
     (impl_ReadOrder k b4).bind fun v1 =>
     if b4 = (⟨#[]⟩ : ByteArray) then
      (impl_isSeen k b35).bind fun v2 =>
      (impl_Feel k ((b38, b28), (b2, v2))).bind fun v3 =>
      (impl_Wants k (b20, (b21, (b22, (b23, (b24, (b25, (b26, b27)))))))).bind fun v4 =>
      (impl_Allow k (v3, v4)).bind fun v5 =>
      if v3.2 = 0 then
       (impl_Give k ((b20, (b21, (b22, (b23, (b24, (b25, (b26, b27))))))), v5)).bind fun v6 =>
       (impl_Pass k (v3, v5)).bind fun v7 =>
       if (((List.length b39 + List.length [(v5, (v7.2, v6.1))] : Nat) : Int) * ((24 : Nat) : Int)) ≤ 140737488355328 then some (v6.1, (v6.2.1, (v6.2.2.1, (v6.2.2.2.1, (v6.2.2.2.2.1, (v6.2.2.2.2.2.1, (v6.2.2.2.2.2.2.1, (v6.2.2.2.2.2.2.2, (v7.1, (v7.2, (b29, (b30, (b31, (b32, (b33, ((b39 ++ [(v5, (v7.2, v6.1))]), b34)))))))))))))))) else none
      else
       (impl_Pass k (v3, v5)).bind fun v8 =>
       if (((List.length b39 + List.length [(v5, (v8.2, b20))] : Nat) : Int) * ((24 : Nat) : Int)) ≤ 140737488355328 then some (b20, (b21, (b22, (b23, (b24, (b25, (b26, (b27, (v8.1, (v8.2, (b29, (b30, (b31, (b32, (b33, ((b39 ++ [(v5, (v8.2, b20))]), b34)))))))))))))))) else none
     else
      if v1.2 = true then
       (impl_isSeen k b35).bind fun v9 =>
       (impl_Feel k ((b38, b28), (b2, v9))).bind fun v10 =>
       (impl_Wants k (b20, (b21, (b22, (b23, (b24, (b25, (b26, b27)))))))).bind fun v11 =>
       (impl_Allow k (v10, v11)).bind fun v12 =>
       if v10.2 = 0 then
        (impl_Give k ((b20, (b21, (b22, (b23, (b24, (b25, (b26, b27))))))), v12)).bind fun v13 =>
        (impl_Pass k (v10, v12)).bind fun v14 =>
        if (((List.length b39 + List.length [(v12, (v14.2, v13.1))] : Nat) : Int) * ((24 : Nat) : Int)) ≤ 140737488355328 then some (v13.1, (v13.2.1, (v13.2.2.1, (v13.2.2.2.1, (v13.2.2.2.2.1, (v13.2.2.2.2.2.1, (v13.2.2.2.2.2.2.1, (v13.2.2.2.2.2.2.2, (v14.1, (v14.2, (b29, (b30, (b31, (b32, (b33, ((b39 ++ [(v12, (v14.2, v13.1))]), b34)))))))))))))))) else none
       else
        (impl_Pass k (v10, v12)).bind fun v15 =>
        if (((List.length b39 + List.length [(v12, (v15.2, b20))] : Nat) : Int) * ((24 : Nat) : Int)) ≤ 140737488355328 then some (b20, (b21, (b22, (b23, (b24, (b25, (b26, (b27, (v15.1, (v15.2, (b29, (b30, (b31, (b32, (b33, ((b39 ++ [(v12, (v15.2, b20))]), b34)))))))))))))))) else none
      else
       (impl_isSeen k b35).bind fun v16 =>
       (impl_Feel k ((b38, b28), (b2, v16))).bind fun v17 =>
       (impl_Wants k (b20, (b21, (b22, (b23, (b24, (b25, (b26, b27)))))))).bind fun v18 =>
       (impl_Allow k (v17, v18)).bind fun v19 =>
       if v17.2 = 0 then
        (impl_Give k ((b20, (b21, (b22, (b23, (b24, (b25, (b26, b27))))))), v19)).bind fun v20 =>
        (impl_Pass k (v17, v19)).bind fun v21 =>
        if (((List.length b39 + List.length [(v19, (v21.2, v20.1))] : Nat) : Int) * ((24 : Nat) : Int)) ≤ 140737488355328 then some (v20.1, (v20.2.1, (v20.2.2.1, (v20.2.2.2.1, (v20.2.2.2.2.1, (v20.2.2.2.2.2.1, (v20.2.2.2.2.2.2.1, (v20.2.2.2.2.2.2.2, (v21.1, (v21.2, (b29, (b30, (b31, (b32, (b33, ((b39 ++ [(v19, (v21.2, v20.1))]), (wrap64 (b34 + 1)))))))))))))))))) else none
       else
        (impl_Pass k (v17, v19)).bind fun v22 =>
        if (((List.length b39 + List.length [(v19, (v22.2, b20))] : Nat) : Int) * ((24 : Nat) : Int)) ≤ 140737488355328 then some (b20, (b21, (b22, (b23, (b24, (b25, (b26, (b27, (v22.1, (v22.2, (b29, (b30, (b31, (b32, (b33, ((b39 ++ [(v19, (v22.2, b20))]), (wrap64 (b34 + 1)))))))))))))))))) else none
def impl_TickDevice_ (impl_Allow : Nat → (List Int × Int) × Int → Option (Int)) (impl_DeviceOk : Nat → (Int × Int × Int × Int × Int × Int × Int × Int × List Int × Int × Int × Bool × Int × Int × ByteArray × (List (Int × (Int × Int))) × Int) → Option (Bool)) (impl_Device__order : Nat → (Int × Int × Int × Int × Int × Int × Int × Int × List Int × Int × Int × Bool × Int × Int × ByteArray × (List (Int × (Int × Int))) × Int) × (Int × Int × Int × Int) → Option (Bool × (Int × Int × Int × Int × Int × Int × Int × Int × Unit × Int × Int × Bool × Int × Int × ByteArray × Unit × Int))) (impl_Feel : Nat → (List Int × Int) × Int × Bool → Option ((List Int × Int))) (impl_Give : Nat → (Int × Int × Int × Int × Int × Int × Int × Int) × Int → Option ((Int × Int × Int × Int × Int × Int × Int × Int))) (impl_InOk : Nat → (Int × ByteArray × ByteArray) → Option (Bool)) (impl_Pass : Nat → (List Int × Int) × Int → Option ((List Int × Int))) (impl_ReadOrder : Nat → ByteArray → Option ((Int × Int × Int × Int) × Bool)) (impl_Wants : Nat → (Int × Int × Int × Int × Int × Int × Int × Int) → Option (Int)) (impl_copyDevice : Nat → (Int × Int × Int × Int × Int × Int × Int × Int × List Int × Int × Int × Bool × Int × Int × ByteArray × (List (Int × (Int × Int))) × Int) → Option ((Int × Int × Int × Int × Int × Int × Int × Int × List Int × Int × Int × Bool × Int × Int × ByteArray × (List (Int × (Int × Int))) × Int))) (impl_isSeen : Nat → ((List (Int × (Int × (Int × Int))))) → Option (Bool)) (impl_ordersOf : Nat → (Int × Bool × Int × Int × ByteArray) × (Int × ByteArray × ByteArray) → Option ((Int × Bool × Int × Int × ByteArray) × ((List (Int × (Int × (Int × Int))))))) (k : Nat) : (Int × Int × Int × Int × Int × Int × Int × Int × List Int × Int × Int × Bool × Int × Int × ByteArray × (List (Int × (Int × Int))) × Int) × (Int × ByteArray × ByteArray) → Option ((Int × Int × Int × Int × Int × Int × Int × Int × List Int × Int × Int × Bool × Int × Int × ByteArray × (List (Int × (Int × Int))) × Int))
  | ((a0, a1, a2, a3, a4, a5, a6, a7, a8, a9, a10, a11, a12, a13, a14, a15, a16), (a17, a18, a19)) =>
  (impl_copyDevice k (a0, (a1, (a2, (a3, (a4, (a5, (a6, (a7, (a8, (a9, (a10, (a11, (a12, (a13, (a14, (a15, a16))))))))))))))))).bind fun v0 =>
  (impl_DeviceOk k (a0, (a1, (a2, (a3, (a4, (a5, (a6, (a7, (a8, (a9, (a10, (a11, (a12, (a13, (a14, (a15, a16))))))))))))))))).bind fun v1 =>
  if v1 = true then
   (impl_InOk k (a17, (a18, a19))).bind fun v2 =>
   if v2 = true then
    if ((List.length a15 : Nat) : Int) = 200 then
     some v0
    else
     if 999999900 < a16 then
      some v0
     else
      (impl_ordersOf k ((a10, (a11, (a12, (a13, a14)))), (a17, (a18, a19)))).bind fun v3 =>
      impl_TickDevice_L7 impl_Allow impl_DeviceOk impl_Device__order impl_Feel impl_Give impl_InOk impl_Pass impl_ReadOrder impl_Wants impl_copyDevice impl_isSeen impl_ordersOf k (((List.length v3.2 : Nat) : Int), 0, a17, a18, a19, 0, 0, 0, 0, 0, 0, 0, 0, 0, 0, false, 0, 0, (⟨#[]⟩ : ByteArray), 0, v0.1, v0.2.1, v0.2.2.1, v0.2.2.2.1, v0.2.2.2.2.1, v0.2.2.2.2.2.1, v0.2.2.2.2.2.2.1, v0.2.2.2.2.2.2.2.1, v0.2.2.2.2.2.2.2.2.2.1, v3.1.1, v3.1.2.1, v3.1.2.2.1, v3.1.2.2.2.1, v3.1.2.2.2.2, v0.2.2.2.2.2.2.2.2.2.2.2.2.2.2.2.2, v3.2, [], [], v0.2.2.2.2.2.2.2.2.1, v0.2.2.2.2.2.2.2.2.2.2.2.2.2.2.2.1, ())
   else
    some v0
  else
   some v0
noncomputable def g_impl_TickDevice : (Int × Int × Int × Int × Int × Int × Int × Int × List Int × Int × Int × Bool × Int × Int × ByteArray × (List (Int × (Int × Int))) × Int) × (Int × ByteArray × ByteArray) → Option ((Int × Int × Int × Int × Int × Int × Int × Int × List Int × Int × Int × Bool × Int × Int × ByteArray × (List (Int × (Int × Int))) × Int)) := evG (impl_TickDevice_ (fun _ => g_impl_Allow) (fun _ => g_impl_DeviceOk) (fun _ => g_impl_Device__order) (fun _ => g_impl_Feel) (fun _ => g_impl_Give) (fun _ => g_impl_InOk) (fun _ => g_impl_Pass) (fun _ => g_impl_ReadOrder) (fun _ => g_impl_Wants) (fun _ => g_impl_copyDevice) (fun _ => g_impl_isSeen) (fun _ => g_impl_ordersOf))
theorem e_impl_TickDevice : ∀ x b, g_impl_TickDevice x = some b → ∃ k, impl_TickDevice_ (fun _ => g_impl_Allow) (fun _ => g_impl_DeviceOk) (fun _ => g_impl_Device__order) (fun _ => g_impl_Feel) (fun _ => g_impl_Give) (fun _ => g_impl_InOk) (fun _ => g_impl_Pass) (fun _ => g_impl_ReadOrder) (fun _ => g_impl_Wants) (fun _ => g_impl_copyDevice) (fun _ => g_impl_isSeen) (fun _ => g_impl_ordersOf) k x = some b := evG_e _
/- impl_PumpNew -/
def con_impl_PumpNew (f : Nat → Unit → Option ((Int × Int × Int × Int × Int × Int × Int × Int))) : Con := ⟨[], 1, [.v true [.int .i64, .int .i64, .int .i64, .int .i64, .int .i64, .int .i64, .int .i64, .int .i64]], f⟩
def impl_PumpNew_ (k : Nat) : Unit → Option ((Int × Int × Int × Int × Int × Int × Int × Int))
  | () =>
  some (0, (0, (1, (0, (0, (0, (0, 0)))))))
noncomputable def g_impl_PumpNew : Unit → Option ((Int × Int × Int × Int × Int × Int × Int × Int)) := impl_PumpNew_  0
theorem e_impl_PumpNew : ∀ x b, g_impl_PumpNew x = some b → ∃ k, impl_PumpNew_  k x = some b := fun x b h => ⟨0, h⟩
/- impl_DeviceNew -/
def con_impl_DeviceNew (f : Nat → Unit → Option ((Int × Int × Int × Int × Int × Int × Int × Int × List Int × Int × Int × Bool × Int × Int × ByteArray × (List (Int × (Int × Int))) × Int))) : Con := ⟨[], 1, [.v true [.int .i64, .int .i64, .int .i64, .int .i64, .int .i64, .int .i64, .int .i64, .int .i64, .own (.int .i64) 3, .int .i64, .int .i64, .bool, .int .i64, .int .i64, .str, .own (.pair (.int .i64) (.pair (.int .i64) (.int .i64))) 52, .int .i64]], f⟩
def impl_DeviceNew_ (impl_MenuNew : Nat → Unit → Option ((Int × Bool × Int × Int × ByteArray))) (impl_PumpNew : Nat → Unit → Option ((Int × Int × Int × Int × Int × Int × Int × Int))) (k : Nat) : Unit → Option ((Int × Int × Int × Int × Int × Int × Int × Int × List Int × Int × Int × Bool × Int × Int × ByteArray × (List (Int × (Int × Int))) × Int))
  | () =>
  (impl_PumpNew k ()).bind fun v0 =>
  (impl_MenuNew k ()).bind fun v1 =>
  some (v0.1, (v0.2.1, (v0.2.2.1, (v0.2.2.2.1, (v0.2.2.2.2.1, (v0.2.2.2.2.2.1, (v0.2.2.2.2.2.2.1, (v0.2.2.2.2.2.2.2, (([] : List Int), (0, (v1.1, (v1.2.1, (v1.2.2.1, (v1.2.2.2.1, (v1.2.2.2.2, (([] : List (Int × (Int × Int))), 0))))))))))))))))
noncomputable def g_impl_DeviceNew : Unit → Option ((Int × Int × Int × Int × Int × Int × Int × Int × List Int × Int × Int × Bool × Int × Int × ByteArray × (List (Int × (Int × Int))) × Int)) := impl_DeviceNew_ (fun _ => g_impl_MenuNew) (fun _ => g_impl_PumpNew) 0
theorem e_impl_DeviceNew : ∀ x b, g_impl_DeviceNew x = some b → ∃ k, impl_DeviceNew_ (fun _ => g_impl_MenuNew) (fun _ => g_impl_PumpNew) k x = some b := fun x b h => ⟨0, h⟩
/- impl_RunDevice -/
def con_impl_RunDevice (f : Nat → ((List (Int × (ByteArray × ByteArray)))) → Option ((Int × Int × Int × Int × Int × Int × Int × Int × List Int × Int × Int × Bool × Int × Int × ByteArray × (List (Int × (Int × Int))) × Int) × Bool)) : Con := ⟨[.c (.sl (.pair (.int .i64) (.pair .str .str)))], 2, [.v true [.int .i64, .int .i64, .int .i64, .int .i64, .int .i64, .int .i64, .int .i64, .int .i64, .own (.int .i64) 3, .int .i64, .int .i64, .bool, .int .i64, .int .i64, .str, .own (.pair (.int .i64) (.pair (.int .i64) (.int .i64))) 52, .int .i64], .v false [.bool]], f⟩
mutual
def impl_RunDevice_L4 (impl_DeviceNew : Nat → Unit → Option ((Int × Int × Int × Int × Int × Int × Int × Int × List Int × Int × Int × Bool × Int × Int × ByteArray × (List (Int × (Int × Int))) × Int))) (impl_InOk : Nat → (Int × ByteArray × ByteArray) → Option (Bool)) (impl_TickDevice : Nat → (Int × Int × Int × Int × Int × Int × Int × Int × List Int × Int × Int × Bool × Int × Int × ByteArray × (List (Int × (Int × Int))) × Int) × (Int × ByteArray × ByteArray) → Option ((Int × Int × Int × Int × Int × Int × Int × Int × List Int × Int × Int × Bool × Int × Int × ByteArray × (List (Int × (Int × Int))) × Int))) : Nat → Int × Int × (List (Int × (ByteArray × ByteArray))) × Int × Int × Int × Int × Int × Int × Int × Int × Int × Int × Bool × Int × Int × ByteArray × Int × List Int × List Int × Unit → Option ((Int × Int × Int × Int × Int × Int × Int × Int × List Int × Int × Int × Bool × Int × Int × ByteArray × (List (Int × (Int × Int))) × Int) × Bool)
  | 0, _ => none
  | k + 1, (b0, b1, b2, b3, b4, b5, b6, b7, b8, b9, b10, b11, b12, b13, b14, b15, b16, b17, b18, b19, ()) =>
    if b1 < b0 then
     if 0 ≤ b1 then
      if b1 < ((List.length b2 : Nat) : Int) then (impl_InOk k (List.getD b2 (Int.toNat b1) (0, ((⟨#[]⟩ : ByteArray), (⟨#[]⟩ : ByteArray))))).bind fun v0 =>
       if v0 = true then
        impl_RunDevice_L4 impl_DeviceNew impl_InOk impl_TickDevice k (b0, (wrap64 (b1 + 1)), b2, b3, b4, b5, b6, b7, b8, b9, b10, b11, b12, b13, b14, b15, b16, b17, b18, b19, ())
       else
        some ((0, (0, (0, (0, (0, (0, (0, (0, (([] : List Int), (0, (0, (false, (0, (0, ((⟨#[]⟩ : ByteArray), (([] : List (Int × (Int × Int))), 0)))))))))))))))), false) else none
     else
      none
    else
     (impl_DeviceNew k ()).bind fun v1 =>
     impl_RunDevice_L11 impl_DeviceNew impl_InOk impl_TickDevice k (((List.length b2 : Nat) : Int), 0, b2, b3, b4, b5, b6, b7, b8, b9, b10, b11, b12, b13, b14, b15, b16, b17, v1.1, v1.2.1, v1.2.2.1, v1.2.2.2.1, v1.2.2.2.2.1, v1.2.2.2.2.2.1, v1.2.2.2.2.2.2.1, v1.2.2.2.2.2.2.2.1, v1.2.2.2.2.2.2.2.2.2.1, v1.2.2.2.2.2.2.2.2.2.2.1, v1.2.2.2.2.2.2.2.2.2.2.2.1, v1.2.2.2.2.2.2.2.2.2.2.2.2.1, v1.2.2.2.2.2.2.2.2.2.2.2.2.2.1, v1.2.2.2.2.2.2.2.2.2.2.2.2.2.2.1, v1.2.2.2.2.2.2.2.2.2.2.2.2.2.2.2.2, b18, b19, v1.2.2.2.2.2.2.2.2.1, v1.2.2.2.2.2.2.2.2.2.2.2.2.2.2.2.1, ())
def impl_RunDevice_L11 (impl_DeviceNew : Nat → Unit → Option ((Int × Int × Int × Int × Int × Int × Int × Int × List Int × Int × Int × Bool × Int × Int × ByteArray × (List (Int × (Int × Int))) × Int))) (impl_InOk : Nat → (Int × ByteArray × ByteArray) → Option (Bool)) (impl_TickDevice : Nat → (Int × Int × Int × Int × Int × Int × Int × Int × List Int × Int × Int × Bool × Int × Int × ByteArray × (List (Int × (Int × Int))) × Int) × (Int × ByteArray × ByteArray) → Option ((Int × Int × Int × Int × Int × Int × Int × Int × List Int × Int × Int × Bool × Int × Int × ByteArray × (List (Int × (Int × Int))) × Int))) : Nat → Int × Int × (List (Int × (ByteArray × ByteArray))) × Int × Int × Int × Int × Int × Int × Int × Int × Int × Int × Bool × Int × Int × ByteArray × Int × Int × Int × Int × Int × Int × Int × Int × Int × Int × Int × Bool × Int × Int × ByteArray × Int × List Int × List Int × List Int × (List (Int × (Int × Int))) × Unit → Option ((Int × Int × Int × Int × Int × Int × Int × Int × List Int × Int × Int × Bool × Int × Int × ByteArray × (List (Int × (Int × Int))) × Int) × Bool)
  | 0, _ => none
  | k + 1, (b0, b1, b2, b3, b4, b5, b6, b7, b8, b9, b10, b11, b12, b13, b14, b15, b16, b17, b18, b19, b20, b21, b22, b23, b24, b25, b26, b27, b28, b29, b30, b31, b32, b33, b34, b35, b36, ()) =>
    if b1 < b0 then
     if 0 ≤ b1 then
      if b1 < ((List.length b2 : Nat) : Int) then (impl_TickDevice k ((b18, (b19, (b20, (b21, (b22, (b23, (b24, (b25, (b35, (b26, (b27, (b28, (b29, (b30, (b31, (b36, b32)))))))))))))))), (List.getD b2 (Int.toNat b1) (0, ((⟨#[]⟩ : ByteArray), (⟨#[]⟩ : ByteArray)))))).bind fun v0 =>
       impl_RunDevice_L11 impl_DeviceNew impl_InOk impl_TickDevice k (b0, (wrap64 (b1 + 1)), b2, b3, b4, b5, b6, b7, b8, b9, b10, b11, b12, b13, b14, b15, b16, b17, v0.1, v0.2.1, v0.2.2.1, v0.2.2.2.1, v0.2.2.2.2.1, v0.2.2.2.2.2.1, v0.2.2.2.2.2.2.1, v0.2.2.2.2.2.2.2.1, v0.2.2.2.2.2.2.2.2.2.1, v0.2.2.2.2.2.2.2.2.2.2.1, v0.2.2.2.2.2.2.2.2.2.2.2.1, v0.2.2.2.2.2.2.2.2.2.2.2.2.1, v0.2.2.2.2.2.2.2.2.2.2.2.2.2.1, v0.2.2.2.2.2.2.2.2.2.2.2.2.2.2.1, v0.2.2.2.2.2.2.2.2.2.2.2.2.2.2.2.2, b33, b34, v0.2.2.2.2.2.2.2.2.1, v0.2.2.2.2.2.2.2.2.2.2.2.2.2.2.2.1, ()) else none
     else
      none
    else
     some ((b18, (b19, (b20, (b21, (b22, (b23, (b24, (b25, (b35, (b26, (b27, (b28, (b29, (b30, (b31, (b36, b32)))))))))))))))), true)
end
def impl_RunDevice_ (impl_DeviceNew : Nat → Unit → Option ((Int × Int × Int × Int × Int × Int × Int × Int × List Int × Int × Int × Bool × Int × Int × ByteArray × (List (Int × (Int × Int))) × Int))) (impl_InOk : Nat → (Int × ByteArray × ByteArray) → Option (Bool)) (impl_TickDevice : Nat → (Int × Int × Int × Int × Int × Int × Int × Int × List Int × Int × Int × Bool × Int × Int × ByteArray × (List (Int × (Int × Int))) × Int) × (Int × ByteArray × ByteArray) → Option ((Int × Int × Int × Int × Int × Int × Int × Int × List Int × Int × Int × Bool × Int × Int × ByteArray × (List (Int × (Int × Int))) × Int))) (k : Nat) : ((List (Int × (ByteArray × ByteArray)))) → Option ((Int × Int × Int × Int × Int × Int × Int × Int × List Int × Int × Int × Bool × Int × Int × ByteArray × (List (Int × (Int × Int))) × Int) × Bool)
  | a0 =>
  if 150 < ((List.length a0 : Nat) : Int) then
   some ((0, (0, (0, (0, (0, (0, (0, (0, (([] : List Int), (0, (0, (false, (0, (0, ((⟨#[]⟩ : ByteArray), (([] : List (Int × (Int × Int))), 0)))))))))))))))), false)
  else
   impl_RunDevice_L4 impl_DeviceNew impl_InOk impl_TickDevice k (((List.length a0 : Nat) : Int), 0, a0, 0, 0, 0, 0, 0, 0, 0, 0, 0, 0, false, 0, 0, (⟨#[]⟩ : ByteArray), 0, [], [], ())
noncomputable def g_impl_RunDevice : ((List (Int × (ByteArray × ByteArray)))) → Option ((Int × Int × Int × Int × Int × Int × Int × Int × List Int × Int × Int × Bool × Int × Int × ByteArray × (List (Int × (Int × Int))) × Int) × Bool) := evG (impl_RunDevice_ (fun _ => g_impl_DeviceNew) (fun _ => g_impl_InOk) (fun _ => g_impl_TickDevice))
theorem e_impl_RunDevice : ∀ x b, g_impl_RunDevice x = some b → ∃ k, impl_RunDevice_ (fun _ => g_impl_DeviceNew) (fun _ => g_impl_InOk) (fun _ => g_impl_TickDevice) k x = some b := evG_e _
/- spec_l01Byte -/
def con_spec_l01Byte (f : Nat → (List Int × Int × Int) → Option (Int × (Unit × Int × Int))) : Con := ⟨[.ptr [.sl (.int .u8), .int .i64, .int .i64] 63], 1, [.v false [.int .i64], .box [.keep, .int .i64, .int .i64] 63], f⟩
def spec_l01Byte_ (k : Nat) : (List Int × Int × Int) → Option (Int × (Unit × Int × Int))
  | (a0, a1, a2) =>
  if 0 ≤ 33 then
   if 0 ≤ 45 then
    if a1 < ((List.length a0 : Nat) : Int) then
     if 0 ≤ a1 then
      if a1 < ((List.length a0 : Nat) : Int) then some ((iand .i64 (wrap64 ((iand .i64 (ixor .i64 (Int.fdiv (wrap64 ((wrap64 (a2 * 6364136223846793005)) + 1442695040888963407)) (2 ^ (min (Int.toNat 33) (IntKind.bits .i64)))) (Int.fdiv (wrap64 ((wrap64 (a2 * 6364136223846793005)) + 1442695040888963407)) (2 ^ (min (Int.toNat 45) (IntKind.bits .i64))))) 255) + (wrap64 (List.getD a0 (Int.toNat a1) 0)))) 255), ((), ((wrap64 (a1 + 1)), (wrap64 ((wrap64 (a2 * 6364136223846793005)) + 1442695040888963407))))) else none
     else
      none
    else
     some ((iand .i64 (ixor .i64 (Int.fdiv (wrap64 ((wrap64 (a2 * 6364136223846793005)) + 1442695040888963407)) (2 ^ (min (Int.toNat 33) (IntKind.bits .i64)))) (Int.fdiv (wrap64 ((wrap64 (a2 * 6364136223846793005)) + 1442695040888963407)) (2 ^ (min (Int.toNat 45) (IntKind.bits .i64))))) 255), ((), (a1, (wrap64 ((wrap64 (a2 * 6364136223846793005)) + 1442695040888963407)))))
   else
    none
  else
   none
noncomputable def g_spec_l01Byte : (List Int × Int × Int) → Option (Int × (Unit × Int × Int)) := spec_l01Byte_  0
theorem e_spec_l01Byte : ∀ x b, g_spec_l01Byte x = some b → ∃ k, spec_l01Byte_  k x = some b := fun x b h => ⟨0, h⟩
/- spec_l01Text -/
def con_spec_l01Text (f : Nat → (List Int × Int × Int) × Int → Option (ByteArray × (Unit × Int × Int))) : Con := ⟨[.ptr [.sl (.int .u8), .int .i64, .int .i64] 63, .c (.int .i64)], 1, [.v false [.str], .box [.keep, .int .i64, .int .i64] 63], f⟩
def spec_l01Text_L5 (spec_l01Byte : Nat → (List Int × Int × Int) → Option (Int × (Unit × Int × Int))) : Nat → Int × Int × Int × Int × List Int × List Int × Unit → Option (ByteArray × (Unit × Int × Int))
  | 0, _ => none
  | k + 1, (b0, b1, b2, b3, b4, b5, ()) =>
    if b1 < b0 then
     (spec_l01Byte k (b4, (b2, b3))).bind fun v0 =>
     if (((List.length b5 + List.length [(wr .u8 v0.1)] : Nat) : Int) * ((1 : Nat) : Int)) ≤ 140737488355328 then spec_l01Text_L5 spec_l01Byte k (b0, (wrap64 (b1 + 1)), v0.2.2.1, v0.2.2.2, b4, (b5 ++ [(wr .u8 v0.1)]), ()) else none
    else
     some ((bstr b5), ((), (b2, b3)))
def spec_l01Text_ (spec_l01Byte : Nat → (List Int × Int × Int) → Option (Int × (Unit × Int × Int))) (k : Nat) : (List Int × Int × Int) × Int → Option (ByteArray × (Unit × Int × Int))
  | ((a0, a1, a2), a3) =>
  if 5000 < a3 then
   spec_l01Text_L5 spec_l01Byte k (5000, 0, a1, a2, a0, ([] : List Int), ())
  else
   spec_l01Text_L5 spec_l01Byte k (a3, 0, a1, a2, a0, ([] : List Int), ())
noncomputable def g_spec_l01Text : (List Int × Int × Int) × Int → Option (ByteArray × (Unit × Int × Int)) := evG (spec_l01Text_ (fun _ => g_spec_l01Byte))
theorem e_spec_l01Text : ∀ x b, g_spec_l01Text x = some b → ∃ k, spec_l01Text_ (fun _ => g_spec_l01Byte) k x = some b := evG_e _
/- spec_l01Below -/
def con_spec_l01Below (f : Nat → (List Int × Int × Int) × Int → Option (Int × (Unit × Int × Int))) : Con := ⟨[.ptr [.sl (.int .u8), .int .i64, .int .i64] 63, .c (.int .i64)], 1, [.v false [.int .i64], .box [.keep, .int .i64, .int .i64] 63], f⟩
def spec_l01Below_ (spec_l01Byte : Nat → (List Int × Int × Int) → Option (Int × (Unit × Int × Int))) (k : Nat) : (List Int × Int × Int) × Int → Option (Int × (Unit × Int × Int))
  | ((a0, a1, a2), a3) =>
  if a3 ≤ 0 then
   some (0, ((), (a1, a2)))
  else
   if a3 ≤ 256 then
    (spec_l01Byte k (a0, (a1, a2))).bind fun v0 =>
    if a3 = 0 then
     none
    else
     some ((Int.tmod v0.1 a3), ((), v0.2.2))
   else
    (spec_l01Byte k (a0, (a1, a2))).bind fun v1 =>
    (spec_l01Byte k (a0, v1.2.2)).bind fun v2 =>
    (spec_l01Byte k (a0, v2.2.2)).bind fun v3 =>
    (spec_l01Byte k (a0, v3.2.2)).bind fun v4 =>
    if a3 = 0 then
     none
    else
     some ((Int.tmod (wrap64 ((wrap64 ((wrap64 ((wrap64 (v1.1 * 16777216)) + (wrap64 (v2.1 * 65536)))) + (wrap64 (v3.1 * 256)))) + v4.1)) a3), ((), v4.2.2))
noncomputable def g_spec_l01Below : (List Int × Int × Int) × Int → Option (Int × (Unit × Int × Int)) := spec_l01Below_ (fun _ => g_spec_l01Byte) 0
theorem e_spec_l01Below : ∀ x b, g_spec_l01Below x = some b → ∃ k, spec_l01Below_ (fun _ => g_spec_l01Byte) k x = some b := fun x b h => ⟨0, h⟩
/- spec_l02Spoilt -/
def con_spec_l02Spoilt (f : Nat → (List Int × Int × Int) × ByteArray → Option (ByteArray × (Unit × Int × Int))) : Con := ⟨[.ptr [.sl (.int .u8), .int .i64, .int .i64] 63, .c (.str)], 1, [.v false [.str], .box [.keep, .int .i64, .int .i64] 63], f⟩
def spec_l02Spoilt_ (spec_l01Below : Nat → (List Int × Int × Int) × Int → Option (Int × (Unit × Int × Int))) (spec_l01Text : Nat → (List Int × Int × Int) × Int → Option (ByteArray × (Unit × Int × Int))) (k : Nat) : (List Int × Int × Int) × ByteArray → Option (ByteArray × (Unit × Int × Int))
  | ((a0, a1, a2), a3) =>
  (spec_l01Below k ((a0, (a1, a2)), 12)).bind fun v0 =>
  if v0.1 = 0 then
   (spec_l01Text k ((a0, v0.2.2), 1)).bind fun v1 =>
   if ((ByteArray.size a3 + ByteArray.size v1.1 : Nat) : Int) ≤ 9223372036854775807 then some ((a3 ++ v1.1), ((), v1.2.2)) else none
  else
   if v0.1 = 1 then
    (spec_l01Below k ((a0, v0.2.2), (wrap64 (((ByteArray.size a3 : Nat) : Int) + 1)))).bind fun v2 =>
    if 0 ≤ v2.1 then
     if v2.1 ≤ ((ByteArray.size a3 : Nat) : Int) then some ((ByteArray.extract a3 (Int.toNat 0) (Int.toNat v2.1)), ((), v2.2.2)) else none
    else
     none
   else
    if v0.1 = 2 then
     if v0.1 = 2 then
      if 0 < ((ByteArray.size a3 : Nat) : Int) then
       (spec_l01Below k ((a0, v0.2.2), ((ByteArray.size a3 : Nat) : Int))).bind fun v3 =>
       if 0 ≤ v3.1 then
        if v3.1 ≤ ((ByteArray.size a3 : Nat) : Int) then
         if 0 ≤ (wrap64 (v3.1 + 1)) then
          if (wrap64 (v3.1 + 1)) ≤ ((ByteArray.size a3 : Nat) : Int) then (spec_l01Text k ((a0, v3.2.2), 1)).bind fun v4 =>
           if ((ByteArray.size (ByteArray.extract a3 (Int.toNat 0) (Int.toNat v3.1)) + ByteArray.size v4.1 : Nat) : Int) ≤ 9223372036854775807 then
            if ((ByteArray.size ((ByteArray.extract a3 (Int.toNat 0) (Int.toNat v3.1)) ++ v4.1) + ByteArray.size (ByteArray.extract a3 (Int.toNat (wrap64 (v3.1 + 1))) (Int.toNat ((ByteArray.size a3 : Nat) : Int))) : Nat) : Int) ≤ 9223372036854775807 then some ((((ByteArray.extract a3 (Int.toNat 0) (Int.toNat v3.1)) ++ v4.1) ++ (ByteArray.extract a3 (Int.toNat (wrap64 (v3.1 + 1))) (Int.toNat ((ByteArray.size a3 : Nat) : Int)))), ((), v4.2.2)) else none
           else
            none else none
         else
          none
        else
         none
       else
        none
      else
       some (a3, ((), v0.2.2))
     else
      some (a3, ((), v0.2.2))
    else
     if v0.1 = 3 then
      if 0 < ((ByteArray.size a3 : Nat) : Int) then
       (spec_l01Below k ((a0, v0.2.2), ((ByteArray.size a3 : Nat) : Int))).bind fun v5 =>
       if 0 ≤ v5.1 then
        if v5.1 ≤ ((ByteArray.size a3 : Nat) : Int) then
         if 0 ≤ (wrap64 (v5.1 + 1)) then
          if (wrap64 (v5.1 + 1)) ≤ ((ByteArray.size a3 : Nat) : Int) then (spec_l01Text k ((a0, v5.2.2), 1)).bind fun v6 =>
           if ((ByteArray.size (ByteArray.extract a3 (Int.toNat 0) (Int.toNat v5.1)) + ByteArray.size v6.1 : Nat) : Int) ≤ 9223372036854775807 then
            if ((ByteArray.size ((ByteArray.extract a3 (Int.toNat 0) (Int.toNat v5.1)) ++ v6.1) + ByteArray.size (ByteArray.extract a3 (Int.toNat (wrap64 (v5.1 + 1))) (Int.toNat ((ByteArray.size a3 : Nat) : Int))) : Nat) : Int) ≤ 9223372036854775807 then some ((((ByteArray.extract a3 (Int.toNat 0) (Int.toNat v5.1)) ++ v6.1) ++ (ByteArray.extract a3 (Int.toNat (wrap64 (v5.1 + 1))) (Int.toNat ((ByteArray.size a3 : Nat) : Int)))), ((), v6.2.2)) else none
           else
            none else none
         else
          none
        else
         none
       else
        none
      else
       some (a3, ((), v0.2.2))
     else
      some (a3, ((), v0.2.2))
noncomputable def g_spec_l02Spoilt : (List Int × Int × Int) × ByteArray → Option (ByteArray × (Unit × Int × Int)) := spec_l02Spoilt_ (fun _ => g_spec_l01Below) (fun _ => g_spec_l01Text) 0
theorem e_spec_l02Spoilt : ∀ x b, g_spec_l02Spoilt x = some b → ∃ k, spec_l02Spoilt_ (fun _ => g_spec_l01Below) (fun _ => g_spec_l01Text) k x = some b := fun x b h => ⟨0, h⟩
/- spec_l01Once -/
def con_spec_l01Once (f : Nat → (List Int × Int × Int) × Int → Option (Bool × (Unit × Int × Int))) : Con := ⟨[.ptr [.sl (.int .u8), .int .i64, .int .i64] 63, .c (.int .i64)], 1, [.v false [.bool], .box [.keep, .int .i64, .int .i64] 63], f⟩
def spec_l01Once_ (spec_l01Below : Nat → (List Int × Int × Int) × Int → Option (Int × (Unit × Int × Int))) (k : Nat) : (List Int × Int × Int) × Int → Option (Bool × (Unit × Int × Int))
  | ((a0, a1, a2), a3) =>
  (spec_l01Below k ((a0, (a1, a2)), a3)).bind fun v0 =>
  some ((decide (v0.1 = 0)), ((), v0.2.2))
noncomputable def g_spec_l01Once : (List Int × Int × Int) × Int → Option (Bool × (Unit × Int × Int)) := spec_l01Once_ (fun _ => g_spec_l01Below) 0
theorem e_spec_l01Once : ∀ x b, g_spec_l01Once x = some b → ∃ k, spec_l01Once_ (fun _ => g_spec_l01Below) k x = some b := fun x b h => ⟨0, h⟩
/- spec_l01PickInt -/
def con_spec_l01PickInt (f : Nat → (List Int × Int × Int) × List Int → Option (Int × (Unit × Int × Int))) : Con := ⟨[.ptr [.sl (.int .u8), .int .i64, .int .i64] 63, .c (.sl (.int .i64))], 1, [.v false [.int .i64], .box [.keep, .int .i64, .int .i64] 63], f⟩
def spec_l01PickInt_ (spec_l01Below : Nat → (List Int × Int × Int) × Int → Option (Int × (Unit × Int × Int))) (k : Nat) : (List Int × Int × Int) × List Int → Option (Int × (Unit × Int × Int))
  | ((a0, a1, a2), a3) =>
  (spec_l01Below k ((a0, (a1, a2)), ((List.length a3 : Nat) : Int))).bind fun v0 =>
  if 0 ≤ v0.1 then
   if v0.1 < ((List.length a3 : Nat) : Int) then some ((List.getD a3 (Int.toNat v0.1) 0), ((), v0.2.2)) else none
  else
   none
noncomputable def g_spec_l01PickInt : (List Int × Int × Int) × List Int → Option (Int × (Unit × Int × Int)) := spec_l01PickInt_ (fun _ => g_spec_l01Below) 0
theorem e_spec_l01PickInt : ∀ x b, g_spec_l01PickInt x = some b → ∃ k, spec_l01PickInt_ (fun _ => g_spec_l01Below) k x = some b := fun x b h => ⟨0, h⟩
/- spec_l14Order -/
def con_spec_l14Order (f : Nat → (List Int × Int × Int) → Option ((Int × Int × Int × Int) × (Unit × Int × Int))) : Con := ⟨[.ptr [.sl (.int .u8), .int .i64, .int .i64] 63], 1, [.v true [.int .i64, .int .i64, .int .i64, .int .i64], .box [.keep, .int .i64, .int .i64] 63], f⟩
def spec_l14Order_ (spec_l01Below : Nat → (List Int × Int × Int) × Int → Option (Int × (Unit × Int × Int))) (spec_l01PickInt : Nat → (List Int × Int × Int) × List Int → Option (Int × (Unit × Int × Int))) (k : Nat) : (List Int × Int × Int) → Option ((Int × Int × Int × Int) × (Unit × Int × Int))
  | (a0, a1, a2) =>
  (spec_l01PickInt k ((a0, (a1, a2)), [1, 1, 1, 2, 2, 3, 4, 5, 6])).bind fun v0 =>
  if v0.1 = 1 then
   (spec_l01Below k ((a0, v0.2.2), 9)).bind fun v1 =>
   (spec_l01Below k ((a0, v1.2.2), (wrap64 (3 * (wrap64 (1 + v1.1)))))).bind fun v2 =>
   (spec_l01Below k ((a0, v2.2.2), 60)).bind fun v3 =>
   some ((v0.1, ((wrap64 (1 + v2.1)), ((wrap64 (1 + v1.1)), (wrap64 (1 + v3.1))))), ((), v3.2.2))
  else
   if v0.1 = 2 then
    (spec_l01Below k ((a0, v0.2.2), 40)).bind fun v4 =>
    some ((v0.1, (0, (0, (wrap64 (1 + v4.1))))), ((), v4.2.2))
   else
    some ((v0.1, (0, (0, 0))), ((), v0.2.2))
noncomputable def g_spec_l14Order : (List Int × Int × Int) → Option ((Int × Int × Int × Int) × (Unit × Int × Int)) := spec_l14Order_ (fun _ => g_spec_l01Below) (fun _ => g_spec_l01PickInt) 0
theorem e_spec_l14Order : ∀ x b, g_spec_l14Order x = some b → ∃ k, spec_l14Order_ (fun _ => g_spec_l01Below) (fun _ => g_spec_l01PickInt) k x = some b := fun x b h => ⟨0, h⟩
/- spec_l01Pick -/
def con_spec_l01Pick (f : Nat → (List Int × Int × Int) × List ByteArray → Option (ByteArray × (Unit × Int × Int))) : Con := ⟨[.ptr [.sl (.int .u8), .int .i64, .int .i64] 63, .c (.sl .str)], 1, [.v false [.str], .box [.keep, .int .i64, .int .i64] 63], f⟩
def spec_l01Pick_ (spec_l01Below : Nat → (List Int × Int × Int) × Int → Option (Int × (Unit × Int × Int))) (k : Nat) : (List Int × Int × Int) × List ByteArray → Option (ByteArray × (Unit × Int × Int))
  | ((a0, a1, a2), a3) =>
  (spec_l01Below k ((a0, (a1, a2)), ((List.length a3 : Nat) : Int))).bind fun v0 =>
  if 0 ≤ v0.1 then
   if v0.1 < ((List.length a3 : Nat) : Int) then some ((List.getD a3 (Int.toNat v0.1) (⟨#[]⟩ : ByteArray)), ((), v0.2.2)) else none
  else
   none
noncomputable def g_spec_l01Pick : (List Int × Int × Int) × List ByteArray → Option (ByteArray × (Unit × Int × Int)) := spec_l01Pick_ (fun _ => g_spec_l01Below) 0
theorem e_spec_l01Pick : ∀ x b, g_spec_l01Pick x = some b → ∃ k, spec_l01Pick_ (fun _ => g_spec_l01Below) k x = some b := fun x b h => ⟨0, h⟩
/- spec_l17Keys -/
def con_spec_l17Keys (f : Nat → (List Int × Int × Int) → Option (ByteArray × (Unit × Int × Int))) : Con := ⟨[.ptr [.sl (.int .u8), .int .i64, .int .i64] 63], 1, [.v false [.str], .box [.keep, .int .i64, .int .i64] 63], f⟩
def spec_l17Keys_L3 (spec_l01Below : Nat → (List Int × Int × Int) × Int → Option (Int × (Unit × Int × Int))) (spec_l01Pick : Nat → (List Int × Int × Int) × List ByteArray → Option (ByteArray × (Unit × Int × Int))) : Nat → ByteArray × Int × Int × Int × List Int × Unit → Option (ByteArray × (Unit × Int × Int))
  | 0, _ => none
  | k + 1, (b0, b1, b2, b3, b4, ()) =>
    (spec_l01Below k ((b4, (b2, b3)), 3)).bind fun v0 =>
    if b1 < v0.1 then
     (spec_l01Pick k ((b4, v0.2.2), [(⟨#[98, 50, 10, 53, 10, 50, 48, 10]⟩ : ByteArray), (⟨#[111, 57, 10]⟩ : ByteArray), (⟨#[112]⟩ : ByteArray), (⟨#[103]⟩ : ByteArray), (⟨#[115]⟩ : ByteArray), (⟨#[120]⟩ : ByteArray), (⟨#[98, 51, 10, 49, 10]⟩ : ByteArray), (⟨#[52, 48, 10]⟩ : ByteArray), (⟨#[99]⟩ : ByteArray), (⟨#[113]⟩ : ByteArray), (⟨#[98, 48, 10]⟩ : ByteArray)])).bind fun v1 =>
     if ((ByteArray.size b0 + ByteArray.size v1.1 : Nat) : Int) ≤ 9223372036854775807 then spec_l17Keys_L3 spec_l01Below spec_l01Pick k ((b0 ++ v1.1), (wrap64 (b1 + 1)), v1.2.2.1, v1.2.2.2, b4, ()) else none
    else
     some (b0, ((), v0.2.2))
def spec_l17Keys_ (spec_l01Below : Nat → (List Int × Int × Int) × Int → Option (Int × (Unit × Int × Int))) (spec_l01Pick : Nat → (List Int × Int × Int) × List ByteArray → Option (ByteArray × (Unit × Int × Int))) (k : Nat) : (List Int × Int × Int) → Option (ByteArray × (Unit × Int × Int))
  | (a0, a1, a2) =>
  spec_l17Keys_L3 spec_l01Below spec_l01Pick k ((⟨#[]⟩ : ByteArray), 0, a1, a2, a0, ())
noncomputable def g_spec_l17Keys : (List Int × Int × Int) → Option (ByteArray × (Unit × Int × Int)) := evG (spec_l17Keys_ (fun _ => g_spec_l01Below) (fun _ => g_spec_l01Pick))
theorem e_spec_l17Keys : ∀ x b, g_spec_l17Keys x = some b → ∃ k, spec_l17Keys_ (fun _ => g_spec_l01Below) (fun _ => g_spec_l01Pick) k x = some b := evG_e _
/- spec_l18In -/
def con_spec_l18In (f : Nat → (List Int × Int × Int) → Option ((Int × ByteArray × ByteArray) × (Unit × Int × Int))) : Con := ⟨[.ptr [.sl (.int .u8), .int .i64, .int .i64] 63], 1, [.v true [.int .i64, .str, .str], .box [.keep, .int .i64, .int .i64] 63], f⟩
def spec_l18In_ (spec_OrderText : Nat → (Int × Int × Int × Int) → Option (ByteArray × Bool)) (spec_l01Once : Nat → (List Int × Int × Int) × Int → Option (Bool × (Unit × Int × Int))) (spec_l01PickInt : Nat → (List Int × Int × Int) × List Int → Option (Int × (Unit × Int × Int))) (spec_l02Spoilt : Nat → (List Int × Int × Int) × ByteArray → Option (ByteArray × (Unit × Int × Int))) (spec_l14Order : Nat → (List Int × Int × Int) → Option ((Int × Int × Int × Int) × (Unit × Int × Int))) (spec_l17Keys : Nat → (List Int × Int × Int) → Option (ByteArray × (Unit × Int × Int))) (k : Nat) : (List Int × Int × Int) → Option ((Int × ByteArray × ByteArray) × (Unit × Int × Int))
  | (a0, a1, a2) =>
  (spec_l01Once k ((a0, (a1, a2)), 8)).bind fun v0 =>
  if v0.1 = true then
   (spec_l01PickInt k ((a0, v0.2.2), [1, 2, 4, 8, 5, 15])).bind fun v1 =>
   (spec_l01Once k ((a0, v1.2.2), 3)).bind fun v2 =>
   if v2.1 = true then
    (spec_l17Keys k (a0, v2.2.2)).bind fun v3 =>
    if 20 < ((ByteArray.size v3.1 : Nat) : Int) then
     if 0 ≤ 20 then
      if 20 ≤ ((ByteArray.size v3.1 : Nat) : Int) then (spec_l01Once k ((a0, v3.2.2), 6)).bind fun v4 =>
       if v4.1 = true then
        (spec_l14Order k (a0, v4.2.2)).bind fun v5 =>
        (spec_OrderText k v5.1).bind fun v6 =>
        (spec_l01Once k ((a0, v5.2.2), 6)).bind fun v7 =>
        if v7.1 = true then
         (spec_l02Spoilt k ((a0, v7.2.2), v6.1)).bind fun v8 =>
         if 40 < ((ByteArray.size v8.1 : Nat) : Int) then
          some ((v1.1, ((ByteArray.extract v3.1 (Int.toNat 0) (Int.toNat 20)), (⟨#[120]⟩ : ByteArray))), ((), v8.2.2))
         else
          some ((v1.1, ((ByteArray.extract v3.1 (Int.toNat 0) (Int.toNat 20)), v8.1)), ((), v8.2.2))
        else
         if 40 < ((ByteArray.size v6.1 : Nat) : Int) then
          some ((v1.1, ((ByteArray.extract v3.1 (Int.toNat 0) (Int.toNat 20)), (⟨#[120]⟩ : ByteArray))), ((), v7.2.2))
         else
          some ((v1.1, ((ByteArray.extract v3.1 (Int.toNat 0) (Int.toNat 20)), v6.1)), ((), v7.2.2))
       else
        some ((v1.1, ((ByteArray.extract v3.1 (Int.toNat 0) (Int.toNat 20)), (⟨#[]⟩ : ByteArray))), ((), v4.2.2)) else none
     else
      none
    else
     (spec_l01Once k ((a0, v3.2.2), 6)).bind fun v9 =>
     if v9.1 = true then
      (spec_l14Order k (a0, v9.2.2)).bind fun v10 =>
      (spec_OrderText k v10.1).bind fun v11 =>
      (spec_l01Once k ((a0, v10.2.2), 6)).bind fun v12 =>
      if v12.1 = true then
       (spec_l02Spoilt k ((a0, v12.2.2), v11.1)).bind fun v13 =>
       if 40 < ((ByteArray.size v13.1 : Nat) : Int) then
        some ((v1.1, (v3.1, (⟨#[120]⟩ : ByteArray))), ((), v13.2.2))
       else
        some ((v1.1, (v3.1, v13.1)), ((), v13.2.2))
      else
       if 40 < ((ByteArray.size v11.1 : Nat) : Int) then
        some ((v1.1, (v3.1, (⟨#[120]⟩ : ByteArray))), ((), v12.2.2))
       else
        some ((v1.1, (v3.1, v11.1)), ((), v12.2.2))
     else
      some ((v1.1, (v3.1, (⟨#[]⟩ : ByteArray))), ((), v9.2.2))
   else
    (spec_l01Once k ((a0, v2.2.2), 6)).bind fun v14 =>
    if v14.1 = true then
     (spec_l14Order k (a0, v14.2.2)).bind fun v15 =>
     (spec_OrderText k v15.1).bind fun v16 =>
     (spec_l01Once k ((a0, v15.2.2), 6)).bind fun v17 =>
     if v17.1 = true then
      (spec_l02Spoilt k ((a0, v17.2.2), v16.1)).bind fun v18 =>
      if 40 < ((ByteArray.size v18.1 : Nat) : Int) then
       some ((v1.1, ((⟨#[]⟩ : ByteArray), (⟨#[120]⟩ : ByteArray))), ((), v18.2.2))
      else
       some ((v1.1, ((⟨#[]⟩ : ByteArray), v18.1)), ((), v18.2.2))
     else
      if 40 < ((ByteArray.size v16.1 : Nat) : Int) then
       some ((v1.1, ((⟨#[]⟩ : ByteArray), (⟨#[120]⟩ : ByteArray))), ((), v17.2.2))
      else
       some ((v1.1, ((⟨#[]⟩ : ByteArray), v16.1)), ((), v17.2.2))
    else
     some ((v1.1, ((⟨#[]⟩ : ByteArray), (⟨#[]⟩ : ByteArray))), ((), v14.2.2))
  else
   (spec_l01Once k ((a0, v0.2.2), 3)).bind fun v19 =>
   if v19.1 = true then
    (spec_l17Keys k (a0, v19.2.2)).bind fun v20 =>
    if 20 < ((ByteArray.size v20.1 : Nat) : Int) then
     if 0 ≤ 20 then
      if 20 ≤ ((ByteArray.size v20.1 : Nat) : Int) then (spec_l01Once k ((a0, v20.2.2), 6)).bind fun v21 =>
       if v21.1 = true then
        (spec_l14Order k (a0, v21.2.2)).bind fun v22 =>
        (spec_OrderText k v22.1).bind fun v23 =>
        (spec_l01Once k ((a0, v22.2.2), 6)).bind fun v24 =>
        if v24.1 = true then
         (spec_l02Spoilt k ((a0, v24.2.2), v23.1)).bind fun v25 =>
         if 40 < ((ByteArray.size v25.1 : Nat) : Int) then
          some ((0, ((ByteArray.extract v20.1 (Int.toNat 0) (Int.toNat 20)), (⟨#[120]⟩ : ByteArray))), ((), v25.2.2))
         else
          some ((0, ((ByteArray.extract v20.1 (Int.toNat 0) (Int.toNat 20)), v25.1)), ((), v25.2.2))
        else
         if 40 < ((ByteArray.size v23.1 : Nat) : Int) then
          some ((0, ((ByteArray.extract v20.1 (Int.toNat 0) (Int.toNat 20)), (⟨#[120]⟩ : ByteArray))), ((), v24.2.2))
         else
          some ((0, ((ByteArray.extract v20.1 (Int.toNat 0) (Int.toNat 20)), v23.1)), ((), v24.2.2))
       else
        some ((0, ((ByteArray.extract v20.1 (Int.toNat 0) (Int.toNat 20)), (⟨#[]⟩ : ByteArray))), ((), v21.2.2)) else none
     else
      none
    else
     (spec_l01Once k ((a0, v20.2.2), 6)).bind fun v26 =>
     if v26.1 = true then
      (spec_l14Order k (a0, v26.2.2)).bind fun v27 =>
      (spec_OrderText k v27.1).bind fun v28 =>
      (spec_l01Once k ((a0, v27.2.2), 6)).bind fun v29 =>
      if v29.1 = true then
       (spec_l02Spoilt k ((a0, v29.2.2), v28.1)).bind fun v30 =>
       if 40 < ((ByteArray.size v30.1 : Nat) : Int) then
        some ((0, (v20.1, (⟨#[120]⟩ : ByteArray))), ((), v30.2.2))
       else
        some ((0, (v20.1, v30.1)), ((), v30.2.2))
      else
       if 40 < ((ByteArray.size v28.1 : Nat) : Int) then
        some ((0, (v20.1, (⟨#[120]⟩ : ByteArray))), ((), v29.2.2))
       else
        some ((0, (v20.1, v28.1)), ((), v29.2.2))
     else
      some ((0, (v20.1, (⟨#[]⟩ : ByteArray))), ((), v26.2.2))
   else
    (spec_l01Once k ((a0, v19.2.2), 6)).bind fun v31 =>
    if v31.1 = true then
     (spec_l14Order k (a0, v31.2.2)).bind fun v32 =>
     (spec_OrderText k v32.1).bind fun v33 =>
     (spec_l01Once k ((a0, v32.2.2), 6)).bind fun v34 =>
     if v34.1 = true then
      (spec_l02Spoilt k ((a0, v34.2.2), v33.1)).bind fun v35 =>
      if 40 < ((ByteArray.size v35.1 : Nat) : Int) then
       some ((0, ((⟨#[]⟩ : ByteArray), (⟨#[120]⟩ : ByteArray))), ((), v35.2.2))
      else
       some ((0, ((⟨#[]⟩ : ByteArray), v35.1)), ((), v35.2.2))
     else
      if 40 < ((ByteArray.size v33.1 : Nat) : Int) then
       some ((0, ((⟨#[]⟩ : ByteArray), (⟨#[120]⟩ : ByteArray))), ((), v34.2.2))
      else
       some ((0, ((⟨#[]⟩ : ByteArray), v33.1)), ((), v34.2.2))
    else
     some ((0, ((⟨#[]⟩ : ByteArray), (⟨#[]⟩ : ByteArray))), ((), v31.2.2))
noncomputable def g_spec_l18In : (List Int × Int × Int) → Option ((Int × ByteArray × ByteArray) × (Unit × Int × Int)) := spec_l18In_ (fun _ => g_spec_OrderText) (fun _ => g_spec_l01Once) (fun _ => g_spec_l01PickInt) (fun _ => g_spec_l02Spoilt) (fun _ => g_spec_l14Order) (fun _ => g_spec_l17Keys) 0
theorem e_spec_l18In : ∀ x b, g_spec_l18In x = some b → ∃ k, spec_l18In_ (fun _ => g_spec_OrderText) (fun _ => g_spec_l01Once) (fun _ => g_spec_l01PickInt) (fun _ => g_spec_l02Spoilt) (fun _ => g_spec_l14Order) (fun _ => g_spec_l17Keys) k x = some b := fun x b h => ⟨0, h⟩
/- spec_l18Ins -/
def con_spec_l18Ins (f : Nat → (List Int × Int × Int) × List Int → Option (((List (Int × (ByteArray × ByteArray)))) × (Unit × Int × Int))) : Con := ⟨[.ptr [.sl (.int .u8), .int .i64, .int .i64] 63, .c (.sl (.int .u8))], 1, [.v false [.own (.pair (.int .i64) (.pair .str .str)) 47], .box [.keep, .int .i64, .int .i64] 63], f⟩
def spec_l18Ins_L6 (spec_l18In : Nat → (List Int × Int × Int) → Option ((Int × ByteArray × ByteArray) × (Unit × Int × Int))) : Nat → Int × Int × Int × Int × List Int × (List (Int × (ByteArray × ByteArray))) × Unit → Option (((List (Int × (ByteArray × ByteArray)))) × (Unit × Int × Int))
  | 0, _ => none
  | k + 1, (b0, b1, b2, b3, b4, b5, ()) =>
    if b1 < b0 then
     (spec_l18In k (b4, (b2, b3))).bind fun v0 =>
     if (((List.length b5 + List.length [v0.1] : Nat) : Int) * ((40 : Nat) : Int)) ≤ 140737488355328 then spec_l18Ins_L6 spec_l18In k (b0, (wrap64 (b1 + 1)), v0.2.2.1, v0.2.2.2, b4, (b5 ++ [v0.1]), ()) else none
    else
     if 0 < ((List.length b5 : Nat) : Int) then
      if 0 ≤ 0 then
       if 0 < ((List.length b5 : Nat) : Int) then some ((List.set b5 (Int.toNat 0) ((List.getD b5 (Int.toNat 0) (0, ((⟨#[]⟩ : ByteArray), (⟨#[]⟩ : ByteArray)))).1, ((⟨#[98, 50, 10, 49, 10, 54, 48, 10]⟩ : ByteArray), (List.getD b5 (Int.toNat 0) (0, ((⟨#[]⟩ : ByteArray), (⟨#[]⟩ : ByteArray)))).2.2))), ((), (b2, b3))) else none
      else
       none
     else
      some (b5, ((), (b2, b3)))
def spec_l18Ins_ (spec_l18In : Nat → (List Int × Int × Int) → Option ((Int × ByteArray × ByteArray) × (Unit × Int × Int))) (k : Nat) : (List Int × Int × Int) × List Int → Option (((List (Int × (ByteArray × ByteArray)))) × (Unit × Int × Int))
  | ((a0, a1, a2), a3) =>
  if 3 = 0 then
   none
  else
   if 120 < (wrap64 (10 + (wrap64 (Int.tdiv ((List.length a3 : Nat) : Int) 3)))) then
    spec_l18Ins_L6 spec_l18In k (120, 0, a1, a2, a0, ([] : List (Int × (ByteArray × ByteArray))), ())
   else
    spec_l18Ins_L6 spec_l18In k ((wrap64 (10 + (wrap64 (Int.tdiv ((List.length a3 : Nat) : Int) 3)))), 0, a1, a2, a0, ([] : List (Int × (ByteArray × ByteArray))), ())
noncomputable def g_spec_l18Ins : (List Int × Int × Int) × List Int → Option (((List (Int × (ByteArray × ByteArray)))) × (Unit × Int × Int)) := evG (spec_l18Ins_ (fun _ => g_spec_l18In))
theorem e_spec_l18Ins : ∀ x b, g_spec_l18Ins x = some b → ∃ k, spec_l18Ins_ (fun _ => g_spec_l18In) k x = some b := evG_e _
/- spec_l01New -/
def con_spec_l01New (f : Nat → List Int → Option ((Unit × Int × Int))) : Con := ⟨[.c (.sl (.int .u8))], 1, [.box [.al 0 0, .int .i64, .int .i64] 63], f⟩
def spec_l01New_L3 : Nat → Int × Int × List Int × Unit → Option ((Unit × Int × Int))
  | 0, _ => none
  | k + 1, (b0, b1, b2, ()) =>
    if b1 < ((List.length b2 : Nat) : Int) then
     if b1 < 4000 then
      if 0 ≤ b1 then
       if b1 < ((List.length b2 : Nat) : Int) then spec_l01New_L3 k ((iand .i64 (wrap64 ((wrap64 ((wrap64 (b0 * 131)) + (wrap64 (List.getD b2 (Int.toNat b1) 0)))) + 7)) 1073741823), (wrap64 (b1 + 1)), b2, ()) else none
      else
       none
     else
      some ((), (0, b0))
    else
     some ((), (0, b0))
def spec_l01New_ (k : Nat) : List Int → Option ((Unit × Int × Int))
  | a0 =>
  spec_l01New_L3 k ((wrap64 (37101 + ((List.length a0 : Nat) : Int))), 0, a0, ())
noncomputable def g_spec_l01New : List Int → Option ((Unit × Int × Int)) := evG (spec_l01New_ )
theorem e_spec_l01New : ∀ x b, g_spec_l01New x = some b → ∃ k, spec_l01New_  k x = some b := evG_e _
/- spec_DrawIns -/
def con_spec_DrawIns (f : Nat → List Int → Option (((List (Int × (ByteArray × ByteArray)))))) : Con := ⟨[.c (.sl (.int .u8))], 1, [.v false [.own (.pair (.int .i64) (.pair .str .str)) 47]], f⟩
def spec_DrawIns_ (spec_l01New : Nat → List Int → Option ((Unit × Int × Int))) (spec_l18Ins : Nat → (List Int × Int × Int) × List Int → Option (((List (Int × (ByteArray × ByteArray)))) × (Unit × Int × Int))) (k : Nat) : List Int → Option (((List (Int × (ByteArray × ByteArray)))))
  | a0 =>
  (spec_l01New k a0).bind fun v0 =>
  (spec_l18Ins k ((a0, v0.2), a0)).bind fun v1 =>
  some v1.1
noncomputable def g_spec_DrawIns : List Int → Option (((List (Int × (ByteArray × ByteArray))))) := spec_DrawIns_ (fun _ => g_spec_l01New) (fun _ => g_spec_l18Ins) 0
theorem e_spec_DrawIns : ∀ x b, g_spec_DrawIns x = some b → ∃ k, spec_DrawIns_ (fun _ => g_spec_l01New) (fun _ => g_spec_l18Ins) k x = some b := fun x b h => ⟨0, h⟩
/- laws_big -/
def con_laws_big (f : Nat → List Int → Option (Bool)) : Con := ⟨[.c (.sl (.int .u8))], 1, [.v false [.bool]], f⟩
def laws_big_ (k : Nat) : List Int → Option (Bool)
  | a0 =>
  some (decide (1048576 < ((List.length a0 : Nat) : Int)))
noncomputable def g_laws_big : List Int → Option (Bool) := laws_big_  0
theorem e_laws_big : ∀ x b, g_laws_big x = some b → ∃ k, laws_big_  k x = some b := fun x b h => ⟨0, h⟩
/- laws_FnTop -/
def con_laws_FnTop (f : Nat → List Int → Option (Bool)) : Con := ⟨[.c (.sl (.int .u8))], 1, [.v false [.bool]], f⟩
def laws_FnTop_ (impl_Latched : Nat → ((List (Int × (Int × Int)))) × ((List (Int × (ByteArray × ByteArray)))) → Option (Bool)) (impl_RunDevice : Nat → ((List (Int × (ByteArray × ByteArray)))) → Option ((Int × Int × Int × Int × Int × Int × Int × Int × List Int × Int × Int × Bool × Int × Int × ByteArray × (List (Int × (Int × Int))) × Int) × Bool)) (impl_SoundDevice : Nat → (Int × Int × Int × Int × Int × Int × Int × Int × List Int × Int × Int × Bool × Int × Int × ByteArray × (List (Int × (Int × Int))) × Int) → Option (Bool)) (laws_big : Nat → List Int → Option (Bool)) (laws_sameTicks : Nat → ((List (Int × (Int × Int)))) × ((List (Int × (Int × Int)))) → Option (Bool)) (spec_DrawIns : Nat → List Int → Option (((List (Int × (ByteArray × ByteArray)))))) (spec_RunDevice : Nat → ((List (Int × (ByteArray × ByteArray)))) → Option ((Int × Int × Int × Int × Int × Int × Int × Int × List Int × Int × Int × Bool × Int × Int × ByteArray × (List (Int × (Int × Int))) × Int) × Bool)) (spec_SoundDevice : Nat → (Int × Int × Int × Int × Int × Int × Int × Int × List Int × Int × Int × Bool × Int × Int × ByteArray × (List (Int × (Int × Int))) × Int) → Option (Bool)) (k : Nat) : List Int → Option (Bool)
  | a0 =>
  (laws_big k a0).bind fun v0 =>
  if v0 = true then
   some true
  else
   (spec_DrawIns k a0).bind fun v1 =>
   (impl_RunDevice k v1).bind fun v2 =>
   (spec_RunDevice k v1).bind fun v3 =>
   if v2.2 = true then
    (laws_sameTicks k (v2.1.2.2.2.2.2.2.2.2.2.2.2.2.2.2.2.1, v3.1.2.2.2.2.2.2.2.2.2.2.2.2.2.2.2.1)).bind fun v4 =>
    if v4 = true then
     if v2.1.1 = v3.1.1 then
      if v2.1.2.1 = v3.1.2.1 then
       if v2.1.2.2.1 = v3.1.2.2.1 then
        if v2.1.2.2.2.1 = v3.1.2.2.2.1 then
         if v2.1.2.2.2.2.1 = v3.1.2.2.2.2.1 then
          if v2.1.2.2.2.2.2.1 = v3.1.2.2.2.2.2.1 then
           if v2.1.2.2.2.2.2.2.1 = v3.1.2.2.2.2.2.2.1 then
            if v2.1.2.2.2.2.2.2.2.1 = v3.1.2.2.2.2.2.2.2.1 then
             if ((List.length v2.1.2.2.2.2.2.2.2.2.2.2.2.2.2.2.2.1 : Nat) : Int) = ((List.length v1 : Nat) : Int) then
              (impl_SoundDevice k v2.1).bind fun v5 =>
              if v5 = true then
               (spec_SoundDevice k v2.1).bind fun v6 =>
               if v6 = true then
                (impl_Latched k (v2.1.2.2.2.2.2.2.2.2.2.2.2.2.2.2.2.1, v1)).bind fun v7 =>
                some v7
               else
                some false
              else
               some false
             else
              some false
            else
             some false
           else
            some false
          else
           some false
         else
          some false
        else
         some false
       else
        some false
      else
       some false
     else
      some false
    else
     some false
   else
    some false
noncomputable def g_laws_FnTop : List Int → Option (Bool) := laws_FnTop_ (fun _ => g_impl_Latched) (fun _ => g_impl_RunDevice) (fun _ => g_impl_SoundDevice) (fun _ => g_laws_big) (fun _ => g_laws_sameTicks) (fun _ => g_spec_DrawIns) (fun _ => g_spec_RunDevice) (fun _ => g_spec_SoundDevice) 0
theorem e_laws_FnTop : ∀ x b, g_laws_FnTop x = some b → ∃ k, laws_FnTop_ (fun _ => g_impl_Latched) (fun _ => g_impl_RunDevice) (fun _ => g_impl_SoundDevice) (fun _ => g_laws_big) (fun _ => g_laws_sameTicks) (fun _ => g_spec_DrawIns) (fun _ => g_spec_RunDevice) (fun _ => g_spec_SoundDevice) k x = some b := fun x b h => ⟨0, h⟩
end Go.Sx.T
