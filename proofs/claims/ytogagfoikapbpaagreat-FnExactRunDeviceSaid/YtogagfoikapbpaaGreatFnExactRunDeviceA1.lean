/- Functions of the program as functions of Lean, and that the program keeps to them. -/
import Derived.Test.YtogagfoikapbpaaGreatFnExactRunDeviceA0
set_option maxRecDepth 100000
set_option linter.unusedVariables false
set_option linter.unusedSimpArgs false
namespace Go.Proofs
end Go.Proofs
namespace Go.Sx.T
open Go Go.Sx Go.Proofs Go.RowKit
/- spec_l11Var -/
def con_spec_l11Var (f : Nat → (ByteArray × Int × Bool) → Option (Int × (ByteArray × Int × Bool))) : Con := ⟨[.ptr [.str, .int .i64, .bool] 136], 1, [.v false [.int .i64], .box [.str, .int .i64, .bool] 136], f⟩
def spec_l11Var_ (spec_ReadVar : Nat → ByteArray × Int → Option (Int × Int × Bool)) (k : Nat) : (ByteArray × Int × Bool) → Option (Int × (ByteArray × Int × Bool))
  | (a0, a1, a2) =>
  (spec_ReadVar k (a0, a1)).bind fun v0 =>
  if a2 = true then
   some (0, (a0, (a1, true)))
  else
   if v0.2.2 = true then
    some (v0.1, (a0, (v0.2.1, a2)))
   else
    some (0, (a0, (a1, true)))
noncomputable def g_spec_l11Var : (ByteArray × Int × Bool) → Option (Int × (ByteArray × Int × Bool)) := spec_l11Var_ (fun _ => g_spec_ReadVar) 0
theorem e_spec_l11Var : ∀ x b, g_spec_l11Var x = some b → ∃ k, spec_l11Var_ (fun _ => g_spec_ReadVar) k x = some b := fun x b h => ⟨0, h⟩
/- spec_Unsealed -/
def con_spec_Unsealed (f : Nat → ByteArray → Option (ByteArray × Bool)) : Con := ⟨[.c (.str)], 2, [.v false [.str], .v false [.bool]], f⟩
def spec_Unsealed_ (spec_SumOf : Nat → ByteArray → Option (Int)) (spec_l02Four : Nat → Int → Option (ByteArray)) (k : Nat) : ByteArray → Option (ByteArray × Bool)
  | a0 =>
  if (wrap64 (((ByteArray.size a0 : Nat) : Int) - 4)) < 0 then
   some ((⟨#[]⟩ : ByteArray), false)
  else
   if 20000 < (wrap64 (((ByteArray.size a0 : Nat) : Int) - 4)) then
    some ((⟨#[]⟩ : ByteArray), false)
   else
    if 0 ≤ (wrap64 (((ByteArray.size a0 : Nat) : Int) - 4)) then
     if (wrap64 (((ByteArray.size a0 : Nat) : Int) - 4)) ≤ ((ByteArray.size a0 : Nat) : Int) then
      if 0 ≤ (wrap64 (((ByteArray.size a0 : Nat) : Int) - 4)) then
       if (wrap64 (((ByteArray.size a0 : Nat) : Int) - 4)) ≤ ((ByteArray.size a0 : Nat) : Int) then (spec_SumOf k (ByteArray.extract a0 (Int.toNat 0) (Int.toNat (wrap64 (((ByteArray.size a0 : Nat) : Int) - 4))))).bind fun v0 =>
        (spec_l02Four k v0).bind fun v1 =>
        if (ByteArray.extract a0 (Int.toNat (wrap64 (((ByteArray.size a0 : Nat) : Int) - 4))) (Int.toNat ((ByteArray.size a0 : Nat) : Int))) = v1 then
         if 0 ≤ (wrap64 (((ByteArray.size a0 : Nat) : Int) - 4)) then
          if (wrap64 (((ByteArray.size a0 : Nat) : Int) - 4)) ≤ ((ByteArray.size a0 : Nat) : Int) then some ((ByteArray.extract a0 (Int.toNat 0) (Int.toNat (wrap64 (((ByteArray.size a0 : Nat) : Int) - 4)))), true) else none
         else
          none
        else
         some ((⟨#[]⟩ : ByteArray), false) else none
      else
       none
     else
      none
    else
     none
noncomputable def g_spec_Unsealed : ByteArray → Option (ByteArray × Bool) := spec_Unsealed_ (fun _ => g_spec_SumOf) (fun _ => g_spec_l02Four) 0
theorem e_spec_Unsealed : ∀ x b, g_spec_Unsealed x = some b → ∃ k, spec_Unsealed_ (fun _ => g_spec_SumOf) (fun _ => g_spec_l02Four) k x = some b := fun x b h => ⟨0, h⟩
/- spec_ReadOrder -/
def con_spec_ReadOrder (f : Nat → ByteArray → Option ((Int × Int × Int × Int) × Bool)) : Con := ⟨[.c (.str)], 2, [.v true [.int .i64, .int .i64, .int .i64, .int .i64], .v false [.bool]], f⟩
def spec_ReadOrder_ (spec_OrderText : Nat → (Int × Int × Int × Int) → Option (ByteArray × Bool)) (spec_Unsealed : Nat → ByteArray → Option (ByteArray × Bool)) (spec_l11Var : Nat → (ByteArray × Int × Bool) → Option (Int × (ByteArray × Int × Bool))) (k : Nat) : ByteArray → Option ((Int × Int × Int × Int) × Bool)
  | a0 =>
  (spec_Unsealed k a0).bind fun v0 =>
  if v0.2 = true then
   if ((ByteArray.size v0.1 : Nat) : Int) < 1 then
    some ((0, (0, (0, 0))), false)
   else
    if 0 ≤ 0 then
     if 0 < ((ByteArray.size v0.1 : Nat) : Int) then (spec_l11Var k (v0.1, (1, false))).bind fun v1 =>
      (spec_l11Var k v1.2).bind fun v2 =>
      (spec_l11Var k v2.2).bind fun v3 =>
      (spec_OrderText k ((wrap64 (byt v0.1 0)), (v1.1, (v2.1, v3.1)))).bind fun v4 =>
      if v3.2.2.2 = true then
       some ((0, (0, (0, 0))), false)
      else
       if v4.2 = true then
        if v4.1 = a0 then
         some (((wrap64 (byt v0.1 0)), (v1.1, (v2.1, v3.1))), true)
        else
         some ((0, (0, (0, 0))), false)
       else
        some ((0, (0, (0, 0))), false) else none
    else
     none
  else
   some ((0, (0, (0, 0))), false)
noncomputable def g_spec_ReadOrder : ByteArray → Option ((Int × Int × Int × Int) × Bool) := spec_ReadOrder_ (fun _ => g_spec_OrderText) (fun _ => g_spec_Unsealed) (fun _ => g_spec_l11Var) 0
theorem e_spec_ReadOrder : ∀ x b, g_spec_ReadOrder x = some b → ∃ k, spec_ReadOrder_ (fun _ => g_spec_OrderText) (fun _ => g_spec_Unsealed) (fun _ => g_spec_l11Var) k x = some b := fun x b h => ⟨0, h⟩
/- spec_MenuNew -/
def con_spec_MenuNew (f : Nat → Unit → Option ((Int × Bool × Int × Int × ByteArray))) : Con := ⟨[], 1, [.v true [.int .i64, .bool, .int .i64, .int .i64, .str]], f⟩
def spec_MenuNew_ (k : Nat) : Unit → Option ((Int × Bool × Int × Int × ByteArray))
  | () =>
  some (1, (false, (0, (0, (⟨#[]⟩ : ByteArray)))))
noncomputable def g_spec_MenuNew : Unit → Option ((Int × Bool × Int × Int × ByteArray)) := spec_MenuNew_  0
theorem e_spec_MenuNew : ∀ x b, g_spec_MenuNew x = some b → ∃ k, spec_MenuNew_  k x = some b := fun x b h => ⟨0, h⟩
/- spec_l17Number -/
def con_spec_l17Number (f : Nat → ByteArray → Option (Int)) : Con := ⟨[.c (.str)], 1, [.v false [.int .i64]], f⟩
def spec_l17Number_L3 : Nat → ByteArray × Int × Int × Unit → Option (Int)
  | 0, _ => none
  | k + 1, (b0, b1, b2, ()) =>
    if b2 < ((ByteArray.size b0 : Nat) : Int) then
     if 0 ≤ b2 then
      if b2 < ((ByteArray.size b0 : Nat) : Int) then spec_l17Number_L3 k (b0, (wrap64 ((wrap64 (10 * b1)) + (wrap64 (wr .u8 ((byt b0 b2) - 48))))), (wrap64 (b2 + 1)), ()) else none
     else
      none
    else
     some b1
def spec_l17Number_ (k : Nat) : ByteArray → Option (Int)
  | a0 =>
  spec_l17Number_L3 k (a0, 0, 0, ())
noncomputable def g_spec_l17Number : ByteArray → Option (Int) := evG (spec_l17Number_ )
theorem e_spec_l17Number : ∀ x b, g_spec_l17Number x = some b → ∃ k, spec_l17Number_  k x = some b := evG_e _
/- spec_l17Top -/
def con_spec_l17Top (f : Nat → (Int × Bool × Int × Int × ByteArray) × Int → Option ((Int × Bool × Int × Int × ByteArray) × (Int × Int × Int × Int) × Bool)) : Con := ⟨[.agg [.int .i64, .bool, .int .i64, .int .i64, .str], .c (.int .i64)], 3, [.v true [.int .i64, .bool, .int .i64, .int .i64, .str], .v true [.int .i64, .int .i64, .int .i64, .int .i64], .v false [.bool]], f⟩
def spec_l17Top_ (k : Nat) : (Int × Bool × Int × Int × ByteArray) × Int → Option ((Int × Bool × Int × Int × ByteArray) × (Int × Int × Int × Int) × Bool)
  | ((a0, a1, a2, a3, a4), a5) =>
  if a5 = 98 then
   some ((2, (false, (0, (0, (⟨#[]⟩ : ByteArray))))), ((0, (0, (0, 0))), false))
  else
   if a5 = 111 then
    some ((4, (true, (0, (0, (⟨#[]⟩ : ByteArray))))), ((0, (0, (0, 0))), false))
   else
    if a5 = 112 then
     some ((a0, (a1, (a2, (a3, a4)))), ((3, (0, (0, 0))), true))
    else
     if a5 = 103 then
      some ((a0, (a1, (a2, (a3, a4)))), ((4, (0, (0, 0))), true))
     else
      if a5 = 115 then
       some ((a0, (a1, (a2, (a3, a4)))), ((5, (0, (0, 0))), true))
      else
       if a5 = 120 then
        some ((a0, (a1, (a2, (a3, a4)))), ((6, (0, (0, 0))), true))
       else
        some ((a0, (a1, (a2, (a3, a4)))), ((0, (0, (0, 0))), false))
noncomputable def g_spec_l17Top : (Int × Bool × Int × Int × ByteArray) × Int → Option ((Int × Bool × Int × Int × ByteArray) × (Int × Int × Int × Int) × Bool) := spec_l17Top_  0
theorem e_spec_l17Top : ∀ x b, g_spec_l17Top x = some b → ∃ k, spec_l17Top_  k x = some b := fun x b h => ⟨0, h⟩
/- spec_MenuOk -/
def con_spec_MenuOk (f : Nat → (Int × Bool × Int × Int × ByteArray) → Option (Bool)) : Con := ⟨[.agg [.int .i64, .bool, .int .i64, .int .i64, .str]], 1, [.v false [.bool]], f⟩
def spec_MenuOk_L4 (spec_l01In : Nat → Int × Int × Int → Option (Bool)) : Nat → Int × Int × Bool × Int × Int × ByteArray × Unit → Option (Bool)
  | 0, _ => none
  | k + 1, (b0, b1, b2, b3, b4, b5, ()) =>
    if b0 < ((ByteArray.size b5 : Nat) : Int) then
     if 0 ≤ b0 then
      if b0 < ((ByteArray.size b5 : Nat) : Int) then
       if (byt b5 b0) < 48 then
        some false
       else
        if 0 ≤ b0 then
         if b0 < ((ByteArray.size b5 : Nat) : Int) then
          if 57 < (byt b5 b0) then
           some false
          else
           spec_MenuOk_L4 spec_l01In k ((wrap64 (b0 + 1)), b1, b2, b3, b4, b5, ())
         else
          none
        else
         none
      else
       none
     else
      none
    else
     if b1 = 1 then
      if b5 = (⟨#[]⟩ : ByteArray) then
       if b2 = true then
        some false
       else
        if b3 = 0 then
         some (decide (b4 = 0))
        else
         some false
      else
       some false
     else
      some true
def spec_MenuOk_ (spec_l01In : Nat → Int × Int × Int → Option (Bool)) (k : Nat) : (Int × Bool × Int × Int × ByteArray) → Option (Bool)
  | (a0, a1, a2, a3, a4) =>
  (spec_l01In k (a0, (1, 4))).bind fun v0 =>
  if v0 = true then
   (spec_l01In k (a2, (0, 9999))).bind fun v1 =>
   if v1 = true then
    (spec_l01In k (a3, (0, 9999))).bind fun v2 =>
    if v2 = true then
     if 4 < ((ByteArray.size a4 : Nat) : Int) then
      some false
     else
      spec_MenuOk_L4 spec_l01In k (0, a0, a1, a2, a3, a4, ())
    else
     some false
   else
    some false
  else
   some false
noncomputable def g_spec_MenuOk : (Int × Bool × Int × Int × ByteArray) → Option (Bool) := evG (spec_MenuOk_ (fun _ => g_spec_l01In))
theorem e_spec_MenuOk : ∀ x b, g_spec_MenuOk x = some b → ∃ k, spec_MenuOk_ (fun _ => g_spec_l01In) k x = some b := evG_e _
/- spec_Press -/
def con_spec_Press (f : Nat → (Int × Bool × Int × Int × ByteArray) × Int → Option ((Int × Bool × Int × Int × ByteArray) × (Int × Int × Int × Int) × Bool)) : Con := ⟨[.agg [.int .i64, .bool, .int .i64, .int .i64, .str], .c (.int .i64)], 3, [.v true [.int .i64, .bool, .int .i64, .int .i64, .str], .v true [.int .i64, .int .i64, .int .i64, .int .i64], .v false [.bool]], f⟩
def spec_Press_ (spec_MenuNew : Nat → Unit → Option ((Int × Bool × Int × Int × ByteArray))) (spec_MenuOk : Nat → (Int × Bool × Int × Int × ByteArray) → Option (Bool)) (spec_OrderOk : Nat → (Int × Int × Int × Int) → Option (Bool)) (spec_l17Number : Nat → ByteArray → Option (Int)) (spec_l17Top : Nat → (Int × Bool × Int × Int × ByteArray) × Int → Option ((Int × Bool × Int × Int × ByteArray) × (Int × Int × Int × Int) × Bool)) (k : Nat) : (Int × Bool × Int × Int × ByteArray) × Int → Option ((Int × Bool × Int × Int × ByteArray) × (Int × Int × Int × Int) × Bool)
  | ((a0, a1, a2, a3, a4), a5) =>
  (spec_MenuOk k (a0, (a1, (a2, (a3, a4))))).bind fun v0 =>
  if v0 = true then
   if a0 = 1 then
    (spec_l17Top k ((a0, (a1, (a2, (a3, a4)))), a5)).bind fun v1 =>
    some v1
   else
    if 48 ≤ a5 then
     if a5 ≤ 57 then
      if ((ByteArray.size a4 : Nat) : Int) < 4 then
       if ((ByteArray.size a4 + ByteArray.size (bstr [(wr .u8 a5)]) : Nat) : Int) ≤ 9223372036854775807 then some ((a0, (a1, (a2, (a3, (a4 ++ (bstr [(wr .u8 a5)])))))), ((0, (0, (0, 0))), false)) else none
      else
       some ((a0, (a1, (a2, (a3, a4)))), ((0, (0, (0, 0))), false))
     else
      if a5 = 99 then
       (spec_MenuNew k ()).bind fun v2 =>
       some (v2, ((0, (0, (0, 0))), false))
      else
       if a5 = 10 then
        (spec_l17Number k a4).bind fun v3 =>
        if a0 = 2 then
         some ((3, (a1, (v3, (a3, (⟨#[]⟩ : ByteArray))))), ((0, (0, (0, 0))), false))
        else
         if a0 = 3 then
          some ((4, (a1, (a2, (v3, (⟨#[]⟩ : ByteArray))))), ((0, (0, (0, 0))), false))
         else
          if a1 = true then
           (spec_OrderOk k (2, (0, (0, v3)))).bind fun v4 =>
           if v4 = true then
            (spec_MenuNew k ()).bind fun v5 =>
            some (v5, ((2, (0, (0, v3))), true))
           else
            (spec_MenuNew k ()).bind fun v6 =>
            some (v6, ((0, (0, (0, 0))), false))
          else
           (spec_OrderOk k (1, (a2, (a3, v3)))).bind fun v7 =>
           if v7 = true then
            (spec_MenuNew k ()).bind fun v8 =>
            some (v8, ((1, (a2, (a3, v3))), true))
           else
            (spec_MenuNew k ()).bind fun v9 =>
            some (v9, ((0, (0, (0, 0))), false))
       else
        some ((a0, (a1, (a2, (a3, a4)))), ((0, (0, (0, 0))), false))
    else
     if a5 = 99 then
      (spec_MenuNew k ()).bind fun v10 =>
      some (v10, ((0, (0, (0, 0))), false))
     else
      if a5 = 10 then
       (spec_l17Number k a4).bind fun v11 =>
       if a0 = 2 then
        some ((3, (a1, (v11, (a3, (⟨#[]⟩ : ByteArray))))), ((0, (0, (0, 0))), false))
       else
        if a0 = 3 then
         some ((4, (a1, (a2, (v11, (⟨#[]⟩ : ByteArray))))), ((0, (0, (0, 0))), false))
        else
         if a1 = true then
          (spec_OrderOk k (2, (0, (0, v11)))).bind fun v12 =>
          if v12 = true then
           (spec_MenuNew k ()).bind fun v13 =>
           some (v13, ((2, (0, (0, v11))), true))
          else
           (spec_MenuNew k ()).bind fun v14 =>
           some (v14, ((0, (0, (0, 0))), false))
         else
          (spec_OrderOk k (1, (a2, (a3, v11)))).bind fun v15 =>
          if v15 = true then
           (spec_MenuNew k ()).bind fun v16 =>
           some (v16, ((1, (a2, (a3, v11))), true))
          else
           (spec_MenuNew k ()).bind fun v17 =>
           some (v17, ((0, (0, (0, 0))), false))
      else
       some ((a0, (a1, (a2, (a3, a4)))), ((0, (0, (0, 0))), false))
  else
   some ((a0, (a1, (a2, (a3, a4)))), ((0, (0, (0, 0))), false))
noncomputable def g_spec_Press : (Int × Bool × Int × Int × ByteArray) × Int → Option ((Int × Bool × Int × Int × ByteArray) × (Int × Int × Int × Int) × Bool) := spec_Press_ (fun _ => g_spec_MenuNew) (fun _ => g_spec_MenuOk) (fun _ => g_spec_OrderOk) (fun _ => g_spec_l17Number) (fun _ => g_spec_l17Top) 0
theorem e_spec_Press : ∀ x b, g_spec_Press x = some b → ∃ k, spec_Press_ (fun _ => g_spec_MenuNew) (fun _ => g_spec_MenuOk) (fun _ => g_spec_OrderOk) (fun _ => g_spec_l17Number) (fun _ => g_spec_l17Top) k x = some b := fun x b h => ⟨0, h⟩
/- spec_PressAll -/
def con_spec_PressAll (f : Nat → (Int × Bool × Int × Int × ByteArray) × ByteArray → Option ((Int × Bool × Int × Int × ByteArray) × ((List (Int × (Int × (Int × Int))))))) : Con := ⟨[.agg [.int .i64, .bool, .int .i64, .int .i64, .str], .c (.str)], 2, [.v true [.int .i64, .bool, .int .i64, .int .i64, .str], .v false [.own (.pair (.int .i64) (.pair (.int .i64) (.pair (.int .i64) (.int .i64)))) 91]], f⟩
def spec_PressAll_L3 (spec_Press : Nat → (Int × Bool × Int × Int × ByteArray) × Int → Option ((Int × Bool × Int × Int × ByteArray) × (Int × Int × Int × Int) × Bool)) : Nat → ByteArray × Int × Int × Bool × Int × Int × ByteArray × Int × Bool × Int × Int × ByteArray × (List (Int × (Int × (Int × Int)))) × Unit → Option ((Int × Bool × Int × Int × ByteArray) × ((List (Int × (Int × (Int × Int))))))
  | 0, _ => none
  | k + 1, (b0, b1, b2, b3, b4, b5, b6, b7, b8, b9, b10, b11, b12, ()) =>
    if b1 < ((ByteArray.size b0 : Nat) : Int) then
     if 0 ≤ b1 then
      if b1 < ((ByteArray.size b0 : Nat) : Int) then (spec_Press k ((b2, (b3, (b4, (b5, b6)))), (wrap64 (byt b0 b1)))).bind fun v0 =>
       if v0.2.2 = true then
        if (((List.length b12 + List.length [v0.2.1] : Nat) : Int) * ((32 : Nat) : Int)) ≤ 140737488355328 then spec_PressAll_L3 spec_Press k (b0, (wrap64 (b1 + 1)), v0.1.1, v0.1.2.1, v0.1.2.2.1, v0.1.2.2.2.1, v0.1.2.2.2.2, b7, b8, b9, b10, b11, (b12 ++ [v0.2.1]), ()) else none
       else
        spec_PressAll_L3 spec_Press k (b0, (wrap64 (b1 + 1)), v0.1.1, v0.1.2.1, v0.1.2.2.1, v0.1.2.2.2.1, v0.1.2.2.2.2, b7, b8, b9, b10, b11, b12, ()) else none
     else
      none
    else
     some ((b2, (b3, (b4, (b5, b6)))), b12)
def spec_PressAll_ (spec_Press : Nat → (Int × Bool × Int × Int × ByteArray) × Int → Option ((Int × Bool × Int × Int × ByteArray) × (Int × Int × Int × Int) × Bool)) (k : Nat) : (Int × Bool × Int × Int × ByteArray) × ByteArray → Option ((Int × Bool × Int × Int × ByteArray) × ((List (Int × (Int × (Int × Int))))))
  | ((a0, a1, a2, a3, a4), a5) =>
  spec_PressAll_L3 spec_Press k (a5, 0, a0, a1, a2, a3, a4, 0, false, 0, 0, (⟨#[]⟩ : ByteArray), ([] : List (Int × (Int × (Int × Int)))), ())
noncomputable def g_spec_PressAll : (Int × Bool × Int × Int × ByteArray) × ByteArray → Option ((Int × Bool × Int × Int × ByteArray) × ((List (Int × (Int × (Int × Int)))))) := evG (spec_PressAll_ (fun _ => g_spec_Press))
theorem e_spec_PressAll : ∀ x b, g_spec_PressAll x = some b → ∃ k, spec_PressAll_ (fun _ => g_spec_Press) k x = some b := evG_e _
/- spec_InOk -/
def con_spec_InOk (f : Nat → (Int × ByteArray × ByteArray) → Option (Bool)) : Con := ⟨[.agg [.int .i64, .str, .str]], 1, [.v false [.bool]], f⟩
def spec_InOk_ (spec_SenseOk : Nat → Int → Option (Bool)) (k : Nat) : (Int × ByteArray × ByteArray) → Option (Bool)
  | (a0, a1, a2) =>
  (spec_SenseOk k a0).bind fun v0 =>
  if v0 = true then
   if ((ByteArray.size a1 : Nat) : Int) ≤ 20 then
    some (decide (((ByteArray.size a2 : Nat) : Int) ≤ 40))
   else
    some false
  else
   some false
noncomputable def g_spec_InOk : (Int × ByteArray × ByteArray) → Option (Bool) := spec_InOk_ (fun _ => g_spec_SenseOk) 0
theorem e_spec_InOk : ∀ x b, g_spec_InOk x = some b → ∃ k, spec_InOk_ (fun _ => g_spec_SenseOk) k x = some b := fun x b h => ⟨0, h⟩
/- spec_DeviceOk -/
def con_spec_DeviceOk (f : Nat → (Int × Int × Int × Int × Int × Int × Int × Int × List Int × Int × Int × Bool × Int × Int × ByteArray × (List (Int × (Int × Int))) × Int) → Option (Bool)) : Con := ⟨[.agg [.int .i64, .int .i64, .int .i64, .int .i64, .int .i64, .int .i64, .int .i64, .int .i64, .sl (.int .i64), .int .i64, .int .i64, .bool, .int .i64, .int .i64, .str, .sl (.pair (.int .i64) (.pair (.int .i64) (.int .i64))), .int .i64]], 1, [.v false [.bool]], f⟩
def spec_DeviceOk_ (spec_GuardOk : Nat → (List Int × Int) → Option (Bool)) (spec_MenuOk : Nat → (Int × Bool × Int × Int × ByteArray) → Option (Bool)) (spec_PumpOk : Nat → (Int × Int × Int × Int × Int × Int × Int × Int) → Option (Bool)) (spec_l01In : Nat → Int × Int × Int → Option (Bool)) (k : Nat) : (Int × Int × Int × Int × Int × Int × Int × Int × List Int × Int × Int × Bool × Int × Int × ByteArray × (List (Int × (Int × Int))) × Int) → Option (Bool)
  | (a0, a1, a2, a3, a4, a5, a6, a7, a8, a9, a10, a11, a12, a13, a14, a15, a16) =>
  (spec_PumpOk k (a0, (a1, (a2, (a3, (a4, (a5, (a6, a7)))))))).bind fun v0 =>
  if v0 = true then
   (spec_GuardOk k (a8, a9)).bind fun v1 =>
   if v1 = true then
    (spec_MenuOk k (a10, (a11, (a12, (a13, a14))))).bind fun v2 =>
    if v2 = true then
     if ((List.length a15 : Nat) : Int) ≤ 200 then
      (spec_l01In k (a16, (0, 1000000000))).bind fun v3 =>
      some v3
     else
      some false
    else
     some false
   else
    some false
  else
   some false
noncomputable def g_spec_DeviceOk : (Int × Int × Int × Int × Int × Int × Int × Int × List Int × Int × Int × Bool × Int × Int × ByteArray × (List (Int × (Int × Int))) × Int) → Option (Bool) := spec_DeviceOk_ (fun _ => g_spec_GuardOk) (fun _ => g_spec_MenuOk) (fun _ => g_spec_PumpOk) (fun _ => g_spec_l01In) 0
theorem e_spec_DeviceOk : ∀ x b, g_spec_DeviceOk x = some b → ∃ k, spec_DeviceOk_ (fun _ => g_spec_GuardOk) (fun _ => g_spec_MenuOk) (fun _ => g_spec_PumpOk) (fun _ => g_spec_l01In) k x = some b := fun x b h => ⟨0, h⟩
/- spec_l18Copy -/
def con_spec_l18Copy (f : Nat → (Int × Int × Int × Int × Int × Int × Int × Int × List Int × Int × Int × Bool × Int × Int × ByteArray × (List (Int × (Int × Int))) × Int) → Option ((Int × Int × Int × Int × Int × Int × Int × Int × List Int × Int × Int × Bool × Int × Int × ByteArray × (List (Int × (Int × Int))) × Int))) : Con := ⟨[.agg [.int .i64, .int .i64, .int .i64, .int .i64, .int .i64, .int .i64, .int .i64, .int .i64, .sl (.int .i64), .int .i64, .int .i64, .bool, .int .i64, .int .i64, .str, .sl (.pair (.int .i64) (.pair (.int .i64) (.int .i64))), .int .i64]], 1, [.v true [.int .i64, .int .i64, .int .i64, .int .i64, .int .i64, .int .i64, .int .i64, .int .i64, .own (.int .i64) 3, .int .i64, .int .i64, .bool, .int .i64, .int .i64, .str, .own (.pair (.int .i64) (.pair (.int .i64) (.int .i64))) 101, .int .i64]], f⟩
def spec_l18Copy_ (spec_l16Copy : Nat → (List Int × Int) → Option ((List Int × Int))) (k : Nat) : (Int × Int × Int × Int × Int × Int × Int × Int × List Int × Int × Int × Bool × Int × Int × ByteArray × (List (Int × (Int × Int))) × Int) → Option ((Int × Int × Int × Int × Int × Int × Int × Int × List Int × Int × Int × Bool × Int × Int × ByteArray × (List (Int × (Int × Int))) × Int))
  | (a0, a1, a2, a3, a4, a5, a6, a7, a8, a9, a10, a11, a12, a13, a14, a15, a16) =>
  (spec_l16Copy k (a8, a9)).bind fun v0 =>
  if (((List.length ([] : List (Int × (Int × Int))) + List.length a15 : Nat) : Int) * ((24 : Nat) : Int)) ≤ 140737488355328 then some (a0, (a1, (a2, (a3, (a4, (a5, (a6, (a7, (v0.1, (v0.2, (a10, (a11, (a12, (a13, (a14, ((([] : List (Int × (Int × Int))) ++ a15), a16)))))))))))))))) else none
noncomputable def g_spec_l18Copy : (Int × Int × Int × Int × Int × Int × Int × Int × List Int × Int × Int × Bool × Int × Int × ByteArray × (List (Int × (Int × Int))) × Int) → Option ((Int × Int × Int × Int × Int × Int × Int × Int × List Int × Int × Int × Bool × Int × Int × ByteArray × (List (Int × (Int × Int))) × Int)) := spec_l18Copy_ (fun _ => g_spec_l16Copy) 0
theorem e_spec_l18Copy : ∀ x b, g_spec_l18Copy x = some b → ∃ k, spec_l18Copy_ (fun _ => g_spec_l16Copy) k x = some b := fun x b h => ⟨0, h⟩
/- spec_TickDevice -/
def con_spec_TickDevice (f : Nat → (Int × Int × Int × Int × Int × Int × Int × Int × List Int × Int × Int × Bool × Int × Int × ByteArray × (List (Int × (Int × Int))) × Int) × (Int × ByteArray × ByteArray) → Option ((Int × Int × Int × Int × Int × Int × Int × Int × List Int × Int × Int × Bool × Int × Int × ByteArray × (List (Int × (Int × Int))) × Int))) : Con := ⟨[.agg [.int .i64, .int .i64, .int .i64, .int .i64, .int .i64, .int .i64, .int .i64, .int .i64, .sl (.int .i64), .int .i64, .int .i64, .bool, .int .i64, .int .i64, .str, .sl (.pair (.int .i64) (.pair (.int .i64) (.int .i64))), .int .i64], .agg [.int .i64, .str, .str]], 1, [.v true [.int .i64, .int .i64, .int .i64, .int .i64, .int .i64, .int .i64, .int .i64, .int .i64, .own (.int .i64) 3, .int .i64, .int .i64, .bool, .int .i64, .int .i64, .str, .own (.pair (.int .i64) (.pair (.int .i64) (.int .i64))) 101, .int .i64]], f⟩
def spec_TickDevice_L13 (spec_Allow : Nat → (List Int × Int) × Int → Option (Int)) (spec_DeviceOk : Nat → (Int × Int × Int × Int × Int × Int × Int × Int × List Int × Int × Int × Bool × Int × Int × ByteArray × (List (Int × (Int × Int))) × Int) → Option (Bool)) (spec_Feel : Nat → (List Int × Int) × Int × Bool → Option ((List Int × Int))) (spec_Give : Nat → (Int × Int × Int × Int × Int × Int × Int × Int) × Int → Option ((Int × Int × Int × Int × Int × Int × Int × Int))) (spec_InOk : Nat → (Int × ByteArray × ByteArray) → Option (Bool)) (spec_Pass : Nat → (List Int × Int) × Int → Option ((List Int × Int))) (spec_PressAll : Nat → (Int × Bool × Int × Int × ByteArray) × ByteArray → Option ((Int × Bool × Int × Int × ByteArray) × ((List (Int × (Int × (Int × Int))))))) (spec_ReadOrder : Nat → ByteArray → Option ((Int × Int × Int × Int) × Bool)) (spec_Take : Nat → (Int × Int × Int × Int × Int × Int × Int × Int) × (Int × Int × Int × Int) → Option ((Int × Int × Int × Int × Int × Int × Int × Int) × Bool)) (spec_Wants : Nat → (Int × Int × Int × Int × Int × Int × Int × Int) → Option (Int)) (spec_l18Copy : Nat → (Int × Int × Int × Int × Int × Int × Int × Int × List Int × Int × Int × Bool × Int × Int × ByteArray × (List (Int × (Int × Int))) × Int) → Option ((Int × Int × Int × Int × Int × Int × Int × Int × List Int × Int × Int × Bool × Int × Int × ByteArray × (List (Int × (Int × Int))) × Int))) : Nat → Bool × Int × List Int × (List (Int × (Int × Int))) × Int × Int × Int × Int × Int × Int × Int × Int × Int × Int × Bool × Int × Int × ByteArray × Int × Int × ByteArray × ByteArray × Int × Int × Int × Int × Int × Int × Int × Int × Int × Int × Bool × Int × Int × ByteArray × Int × Int × Int × Int × Int × Int × Int × Int × Int × Int × Int × Bool × Int × Int × ByteArray × Int × (List (Int × (Int × (Int × Int)))) × List Int × List Int × List Int × (List (Int × (Int × Int))) × Unit → Option ((Int × Int × Int × Int × Int × Int × Int × Int × List Int × Int × Int × Bool × Int × Int × ByteArray × (List (Int × (Int × Int))) × Int))
  | 0, _ => none
  | k + 1, (b0, b1, b2, b3, b4, b5, b6, b7, b8, b9, b10, b11, b12, b13, b14, b15, b16, b17, b18, b19, b20, b21, b22, b23, b24, b25, b26, b27, b28, b29, b30, b31, b32, b33, b34, b35, b36, b37, b38, b39, b40, b41, b42, b43, b44, b45, b46, b47, b48, b49, b50, b51, b52, b53, b54, b55, b56, ()) =>
    if b1 < ((List.length b52 : Nat) : Int) then
     if 0 ≤ b1 then
      if b1 < ((List.length b52 : Nat) : Int) then
       if (List.getD b52 (Int.toNat b1) (0, (0, (0, 0)))).1 = 5 then
        spec_TickDevice_L13 spec_Allow spec_DeviceOk spec_Feel spec_Give spec_InOk spec_Pass spec_PressAll spec_ReadOrder spec_Take spec_Wants spec_l18Copy k (true, (wrap64 (b1 + 1)), b2, b3, b4, b5, b6, b7, b8, b9, b10, b11, b12, b13, b14, b15, b16, b17, b18, b19, b20, b21, b22, b23, b24, b25, b26, b27, b28, b29, b30, b31, b32, b33, b34, b35, b36, b37, b38, b39, b40, b41, b42, b43, b44, b45, b46, b47, b48, b49, b50, b51, b52, b53, b54, b55, b56, ())
       else
        if 0 ≤ b1 then
         if b1 < ((List.length b52 : Nat) : Int) then (spec_Take k ((b37, (b38, (b39, (b40, (b41, (b42, (b43, b44))))))), (List.getD b52 (Int.toNat b1) (0, (0, (0, 0)))))).bind fun v0 =>
          if v0.2 = true then
           spec_TickDevice_L13 spec_Allow spec_DeviceOk spec_Feel spec_Give spec_InOk spec_Pass spec_PressAll spec_ReadOrder spec_Take spec_Wants spec_l18Copy k (b0, (wrap64 (b1 + 1)), b2, b3, b4, b5, b6, b7, b8, b9, b10, b11, b12, b13, b14, b15, b16, b17, b18, b19, b20, b21, b22, b23, b24, b25, b26, b27, b28, b29, b30, b31, b32, b33, b34, b35, b36, v0.1.1, v0.1.2.1, v0.1.2.2.1, v0.1.2.2.2.1, v0.1.2.2.2.2.1, v0.1.2.2.2.2.2.1, v0.1.2.2.2.2.2.2.1, v0.1.2.2.2.2.2.2.2, b45, b46, b47, b48, b49, b50, b51, b52, b53, b54, b55, b56, ())
          else
           spec_TickDevice_L13 spec_Allow spec_DeviceOk spec_Feel spec_Give spec_InOk spec_Pass spec_PressAll spec_ReadOrder spec_Take spec_Wants spec_l18Copy k (b0, (wrap64 (b1 + 1)), b2, b3, b4, b5, b6, b7, b8, b9, b10, b11, b12, b13, b14, b15, b16, b17, b18, b19, b20, b21, b22, b23, b24, b25, b26, b27, b28, b29, b30, b31, b32, b33, b34, b35, b36, v0.1.1, v0.1.2.1, v0.1.2.2.1, v0.1.2.2.2.1, v0.1.2.2.2.2.1, v0.1.2.2.2.2.2.1, v0.1.2.2.2.2.2.2.1, v0.1.2.2.2.2.2.2.2, b45, b46, b47, b48, b49, b50, (wrap64 (b51 + 1)), b52, b53, b54, b55, b56, ()) else none
        else
         none
      else
       none
     else
      none
    else
     (spec_Feel k ((b2, b12), (b19, b0))).bind fun v1 =>
     (spec_Wants k (b37, (b38, (b39, (b40, (b41, (b42, (b43, b44)))))))).bind fun v2 =>
     (spec_Allow k (v1, v2)).bind fun v3 =>
     if v1.2 = 0 then
      (spec_Give k ((b37, (b38, (b39, (b40, (b41, (b42, (b43, b44))))))), v3)).bind fun v4 =>
      (spec_Pass k (v1, v3)).bind fun v5 =>
      if (((List.length b56 + List.length [(v3, (v5.2, v4.1))] : Nat) : Int) * ((24 : Nat) : Int)) ≤ 140737488355328 then some (v4.1, (v4.2.1, (v4.2.2.1, (v4.2.2.2.1, (v4.2.2.2.2.1, (v4.2.2.2.2.2.1, (v4.2.2.2.2.2.2.1, (v4.2.2.2.2.2.2.2, (v5.1, (v5.2, (b46, (b47, (b48, (b49, (b50, ((b56 ++ [(v3, (v5.2, v4.1))]), b51)))))))))))))))) else none
     else
      (spec_Pass k (v1, v3)).bind fun v6 =>
      if (((List.length b56 + List.length [(v3, (v6.2, b37))] : Nat) : Int) * ((24 : Nat) : Int)) ≤ 140737488355328 then some (b37, (b38, (b39, (b40, (b41, (b42, (b43, (b44, (v6.1, (v6.2, (b46, (b47, (b48, (b49, (b50, ((b56 ++ [(v3, (v6.2, b37))]), b51)))))))))))))))) else none
def spec_TickDevice_ (spec_Allow : Nat → (List Int × Int) × Int → Option (Int)) (spec_DeviceOk : Nat → (Int × Int × Int × Int × Int × Int × Int × Int × List Int × Int × Int × Bool × Int × Int × ByteArray × (List (Int × (Int × Int))) × Int) → Option (Bool)) (spec_Feel : Nat → (List Int × Int) × Int × Bool → Option ((List Int × Int))) (spec_Give : Nat → (Int × Int × Int × Int × Int × Int × Int × Int) × Int → Option ((Int × Int × Int × Int × Int × Int × Int × Int))) (spec_InOk : Nat → (Int × ByteArray × ByteArray) → Option (Bool)) (spec_Pass : Nat → (List Int × Int) × Int → Option ((List Int × Int))) (spec_PressAll : Nat → (Int × Bool × Int × Int × ByteArray) × ByteArray → Option ((Int × Bool × Int × Int × ByteArray) × ((List (Int × (Int × (Int × Int))))))) (spec_ReadOrder : Nat → ByteArray → Option ((Int × Int × Int × Int) × Bool)) (spec_Take : Nat → (Int × Int × Int × Int × Int × Int × Int × Int) × (Int × Int × Int × Int) → Option ((Int × Int × Int × Int × Int × Int × Int × Int) × Bool)) (spec_Wants : Nat → (Int × Int × Int × Int × Int × Int × Int × Int) → Option (Int)) (spec_l18Copy : Nat → (Int × Int × Int × Int × Int × Int × Int × Int × List Int × Int × Int × Bool × Int × Int × ByteArray × (List (Int × (Int × Int))) × Int) → Option ((Int × Int × Int × Int × Int × Int × Int × Int × List Int × Int × Int × Bool × Int × Int × ByteArray × (List (Int × (Int × Int))) × Int))) (k : Nat) : (Int × Int × Int × Int × Int × Int × Int × Int × List Int × Int × Int × Bool × Int × Int × ByteArray × (List (Int × (Int × Int))) × Int) × (Int × ByteArray × ByteArray) → Option ((Int × Int × Int × Int × Int × Int × Int × Int × List Int × Int × Int × Bool × Int × Int × ByteArray × (List (Int × (Int × Int))) × Int))
  | ((a0, a1, a2, a3, a4, a5, a6, a7, a8, a9, a10, a11, a12, a13, a14, a15, a16), (a17, a18, a19)) =>
  (spec_l18Copy k (a0, (a1, (a2, (a3, (a4, (a5, (a6, (a7, (a8, (a9, (a10, (a11, (a12, (a13, (a14, (a15, a16))))))))))))))))).bind fun v0 =>
  (spec_DeviceOk k (a0, (a1, (a2, (a3, (a4, (a5, (a6, (a7, (a8, (a9, (a10, (a11, (a12, (a13, (a14, (a15, a16))))))))))))))))).bind fun v1 =>
  if v1 = true then
   (spec_InOk k (a17, (a18, a19))).bind fun v2 =>
   if v2 = true then
    if ((List.length a15 : Nat) : Int) = 200 then
     some v0
    else
     if 999999900 < a16 then
      some v0
     else
      (spec_PressAll k ((a10, (a11, (a12, (a13, a14)))), a18)).bind fun v3 =>
      if a19 = (⟨#[]⟩ : ByteArray) then
       spec_TickDevice_L13 spec_Allow spec_DeviceOk spec_Feel spec_Give spec_InOk spec_Pass spec_PressAll spec_ReadOrder spec_Take spec_Wants spec_l18Copy k (false, 0, a8, a15, a0, a1, a2, a3, a4, a5, a6, a7, a9, a10, a11, a12, a13, a14, a16, a17, a18, a19, 0, 0, 0, 0, 0, 0, 0, 0, 0, 0, false, 0, 0, (⟨#[]⟩ : ByteArray), 0, v0.1, v0.2.1, v0.2.2.1, v0.2.2.2.1, v0.2.2.2.2.1, v0.2.2.2.2.2.1, v0.2.2.2.2.2.2.1, v0.2.2.2.2.2.2.2.1, v0.2.2.2.2.2.2.2.2.2.1, v3.1.1, v3.1.2.1, v3.1.2.2.1, v3.1.2.2.2.1, v3.1.2.2.2.2, v0.2.2.2.2.2.2.2.2.2.2.2.2.2.2.2.2, v3.2, [], [], v0.2.2.2.2.2.2.2.2.1, v0.2.2.2.2.2.2.2.2.2.2.2.2.2.2.2.1, ())
      else
       (spec_ReadOrder k a19).bind fun v4 =>
       if v4.2 = true then
        if (((List.length v3.2 + List.length [v4.1] : Nat) : Int) * ((32 : Nat) : Int)) ≤ 140737488355328 then spec_TickDevice_L13 spec_Allow spec_DeviceOk spec_Feel spec_Give spec_InOk spec_Pass spec_PressAll spec_ReadOrder spec_Take spec_Wants spec_l18Copy k (false, 0, a8, a15, a0, a1, a2, a3, a4, a5, a6, a7, a9, a10, a11, a12, a13, a14, a16, a17, a18, a19, 0, 0, 0, 0, 0, 0, 0, 0, 0, 0, false, 0, 0, (⟨#[]⟩ : ByteArray), 0, v0.1, v0.2.1, v0.2.2.1, v0.2.2.2.1, v0.2.2.2.2.1, v0.2.2.2.2.2.1, v0.2.2.2.2.2.2.1, v0.2.2.2.2.2.2.2.1, v0.2.2.2.2.2.2.2.2.2.1, v3.1.1, v3.1.2.1, v3.1.2.2.1, v3.1.2.2.2.1, v3.1.2.2.2.2, v0.2.2.2.2.2.2.2.2.2.2.2.2.2.2.2.2, (v3.2 ++ [v4.1]), [], [], v0.2.2.2.2.2.2.2.2.1, v0.2.2.2.2.2.2.2.2.2.2.2.2.2.2.2.1, ()) else none
       else
        spec_TickDevice_L13 spec_Allow spec_DeviceOk spec_Feel spec_Give spec_InOk spec_Pass spec_PressAll spec_ReadOrder spec_Take spec_Wants spec_l18Copy k (false, 0, a8, a15, a0, a1, a2, a3, a4, a5, a6, a7, a9, a10, a11, a12, a13, a14, a16, a17, a18, a19, 0, 0, 0, 0, 0, 0, 0, 0, 0, 0, false, 0, 0, (⟨#[]⟩ : ByteArray), 0, v0.1, v0.2.1, v0.2.2.1, v0.2.2.2.1, v0.2.2.2.2.1, v0.2.2.2.2.2.1, v0.2.2.2.2.2.2.1, v0.2.2.2.2.2.2.2.1, v0.2.2.2.2.2.2.2.2.2.1, v3.1.1, v3.1.2.1, v3.1.2.2.1, v3.1.2.2.2.1, v3.1.2.2.2.2, (wrap64 (v0.2.2.2.2.2.2.2.2.2.2.2.2.2.2.2.2 + 1)), v3.2, [], [], v0.2.2.2.2.2.2.2.2.1, v0.2.2.2.2.2.2.2.2.2.2.2.2.2.2.2.1, ())
   else
    some v0
  else
   some v0
noncomputable def g_spec_TickDevice : (Int × Int × Int × Int × Int × Int × Int × Int × List Int × Int × Int × Bool × Int × Int × ByteArray × (List (Int × (Int × Int))) × Int) × (Int × ByteArray × ByteArray) → Option ((Int × Int × Int × Int × Int × Int × Int × Int × List Int × Int × Int × Bool × Int × Int × ByteArray × (List (Int × (Int × Int))) × Int)) := evG (spec_TickDevice_ (fun _ => g_spec_Allow) (fun _ => g_spec_DeviceOk) (fun _ => g_spec_Feel) (fun _ => g_spec_Give) (fun _ => g_spec_InOk) (fun _ => g_spec_Pass) (fun _ => g_spec_PressAll) (fun _ => g_spec_ReadOrder) (fun _ => g_spec_Take) (fun _ => g_spec_Wants) (fun _ => g_spec_l18Copy))
theorem e_spec_TickDevice : ∀ x b, g_spec_TickDevice x = some b → ∃ k, spec_TickDevice_ (fun _ => g_spec_Allow) (fun _ => g_spec_DeviceOk) (fun _ => g_spec_Feel) (fun _ => g_spec_Give) (fun _ => g_spec_InOk) (fun _ => g_spec_Pass) (fun _ => g_spec_PressAll) (fun _ => g_spec_ReadOrder) (fun _ => g_spec_Take) (fun _ => g_spec_Wants) (fun _ => g_spec_l18Copy) k x = some b := evG_e _
/- spec_PumpNew -/
def con_spec_PumpNew (f : Nat → Unit → Option ((Int × Int × Int × Int × Int × Int × Int × Int))) : Con := ⟨[], 1, [.v true [.int .i64, .int .i64, .int .i64, .int .i64, .int .i64, .int .i64, .int .i64, .int .i64]], f⟩
def spec_PumpNew_ (k : Nat) : Unit → Option ((Int × Int × Int × Int × Int × Int × Int × Int))
  | () =>
  some (0, (0, (1, (0, (0, (0, (0, 0)))))))
noncomputable def g_spec_PumpNew : Unit → Option ((Int × Int × Int × Int × Int × Int × Int × Int)) := spec_PumpNew_  0
theorem e_spec_PumpNew : ∀ x b, g_spec_PumpNew x = some b → ∃ k, spec_PumpNew_  k x = some b := fun x b h => ⟨0, h⟩
/- spec_DeviceNew -/
def con_spec_DeviceNew (f : Nat → Unit → Option ((Int × Int × Int × Int × Int × Int × Int × Int × List Int × Int × Int × Bool × Int × Int × ByteArray × (List (Int × (Int × Int))) × Int))) : Con := ⟨[], 1, [.v true [.int .i64, .int .i64, .int .i64, .int .i64, .int .i64, .int .i64, .int .i64, .int .i64, .own (.int .i64) 3, .int .i64, .int .i64, .bool, .int .i64, .int .i64, .str, .own (.pair (.int .i64) (.pair (.int .i64) (.int .i64))) 101, .int .i64]], f⟩
def spec_DeviceNew_ (spec_MenuNew : Nat → Unit → Option ((Int × Bool × Int × Int × ByteArray))) (spec_PumpNew : Nat → Unit → Option ((Int × Int × Int × Int × Int × Int × Int × Int))) (k : Nat) : Unit → Option ((Int × Int × Int × Int × Int × Int × Int × Int × List Int × Int × Int × Bool × Int × Int × ByteArray × (List (Int × (Int × Int))) × Int))
  | () =>
  (spec_PumpNew k ()).bind fun v0 =>
  (spec_MenuNew k ()).bind fun v1 =>
  some (v0.1, (v0.2.1, (v0.2.2.1, (v0.2.2.2.1, (v0.2.2.2.2.1, (v0.2.2.2.2.2.1, (v0.2.2.2.2.2.2.1, (v0.2.2.2.2.2.2.2, (([] : List Int), (0, (v1.1, (v1.2.1, (v1.2.2.1, (v1.2.2.2.1, (v1.2.2.2.2, (([] : List (Int × (Int × Int))), 0))))))))))))))))
noncomputable def g_spec_DeviceNew : Unit → Option ((Int × Int × Int × Int × Int × Int × Int × Int × List Int × Int × Int × Bool × Int × Int × ByteArray × (List (Int × (Int × Int))) × Int)) := spec_DeviceNew_ (fun _ => g_spec_MenuNew) (fun _ => g_spec_PumpNew) 0
theorem e_spec_DeviceNew : ∀ x b, g_spec_DeviceNew x = some b → ∃ k, spec_DeviceNew_ (fun _ => g_spec_MenuNew) (fun _ => g_spec_PumpNew) k x = some b := fun x b h => ⟨0, h⟩
/- spec_RunDevice -/
def con_spec_RunDevice (f : Nat → ((List (Int × (ByteArray × ByteArray)))) → Option ((Int × Int × Int × Int × Int × Int × Int × Int × List Int × Int × Int × Bool × Int × Int × ByteArray × (List (Int × (Int × Int))) × Int) × Bool)) : Con := ⟨[.c (.sl (.pair (.int .i64) (.pair .str .str)))], 2, [.v true [.int .i64, .int .i64, .int .i64, .int .i64, .int .i64, .int .i64, .int .i64, .int .i64, .own (.int .i64) 3, .int .i64, .int .i64, .bool, .int .i64, .int .i64, .str, .own (.pair (.int .i64) (.pair (.int .i64) (.int .i64))) 101, .int .i64], .v false [.bool]], f⟩
mutual
def spec_RunDevice_L3 (spec_DeviceNew : Nat → Unit → Option ((Int × Int × Int × Int × Int × Int × Int × Int × List Int × Int × Int × Bool × Int × Int × ByteArray × (List (Int × (Int × Int))) × Int))) (spec_InOk : Nat → (Int × ByteArray × ByteArray) → Option (Bool)) (spec_TickDevice : Nat → (Int × Int × Int × Int × Int × Int × Int × Int × List Int × Int × Int × Bool × Int × Int × ByteArray × (List (Int × (Int × Int))) × Int) × (Int × ByteArray × ByteArray) → Option ((Int × Int × Int × Int × Int × Int × Int × Int × List Int × Int × Int × Bool × Int × Int × ByteArray × (List (Int × (Int × Int))) × Int))) : Nat → Bool × Int × (List (Int × (ByteArray × ByteArray))) × Int × Int × Int × Int × Int × Int × Int × Int × Int × Int × Bool × Int × Int × ByteArray × Int × List Int × List Int × Unit → Option ((Int × Int × Int × Int × Int × Int × Int × Int × List Int × Int × Int × Bool × Int × Int × ByteArray × (List (Int × (Int × Int))) × Int) × Bool)
  | 0, _ => none
  | k + 1, (b0, b1, b2, b3, b4, b5, b6, b7, b8, b9, b10, b11, b12, b13, b14, b15, b16, b17, b18, b19, ()) =>
    if b1 < ((List.length b2 : Nat) : Int) then
     if b0 = true then
      if 0 ≤ b1 then
       if b1 < ((List.length b2 : Nat) : Int) then (spec_InOk k (List.getD b2 (Int.toNat b1) (0, ((⟨#[]⟩ : ByteArray), (⟨#[]⟩ : ByteArray))))).bind fun v0 =>
        spec_RunDevice_L3 spec_DeviceNew spec_InOk spec_TickDevice k (v0, (wrap64 (b1 + 1)), b2, b3, b4, b5, b6, b7, b8, b9, b10, b11, b12, b13, b14, b15, b16, b17, b18, b19, ()) else none
      else
       none
     else
      if b0 = true then
       (spec_DeviceNew k ()).bind fun v1 =>
       spec_RunDevice_L10 spec_DeviceNew spec_InOk spec_TickDevice k (0, b2, b3, b4, b5, b6, b7, b8, b9, b10, b11, b12, b13, b14, b15, b16, b17, v1.1, v1.2.1, v1.2.2.1, v1.2.2.2.1, v1.2.2.2.2.1, v1.2.2.2.2.2.1, v1.2.2.2.2.2.2.1, v1.2.2.2.2.2.2.2.1, v1.2.2.2.2.2.2.2.2.2.1, v1.2.2.2.2.2.2.2.2.2.2.1, v1.2.2.2.2.2.2.2.2.2.2.2.1, v1.2.2.2.2.2.2.2.2.2.2.2.2.1, v1.2.2.2.2.2.2.2.2.2.2.2.2.2.1, v1.2.2.2.2.2.2.2.2.2.2.2.2.2.2.1, v1.2.2.2.2.2.2.2.2.2.2.2.2.2.2.2.2, b18, b19, v1.2.2.2.2.2.2.2.2.1, v1.2.2.2.2.2.2.2.2.2.2.2.2.2.2.2.1, ())
      else
       some ((0, (0, (0, (0, (0, (0, (0, (0, (([] : List Int), (0, (0, (false, (0, (0, ((⟨#[]⟩ : ByteArray), (([] : List (Int × (Int × Int))), 0)))))))))))))))), false)
    else
     if b0 = true then
      (spec_DeviceNew k ()).bind fun v2 =>
      spec_RunDevice_L10 spec_DeviceNew spec_InOk spec_TickDevice k (0, b2, b3, b4, b5, b6, b7, b8, b9, b10, b11, b12, b13, b14, b15, b16, b17, v2.1, v2.2.1, v2.2.2.1, v2.2.2.2.1, v2.2.2.2.2.1, v2.2.2.2.2.2.1, v2.2.2.2.2.2.2.1, v2.2.2.2.2.2.2.2.1, v2.2.2.2.2.2.2.2.2.2.1, v2.2.2.2.2.2.2.2.2.2.2.1, v2.2.2.2.2.2.2.2.2.2.2.2.1, v2.2.2.2.2.2.2.2.2.2.2.2.2.1, v2.2.2.2.2.2.2.2.2.2.2.2.2.2.1, v2.2.2.2.2.2.2.2.2.2.2.2.2.2.2.1, v2.2.2.2.2.2.2.2.2.2.2.2.2.2.2.2.2, b18, b19, v2.2.2.2.2.2.2.2.2.1, v2.2.2.2.2.2.2.2.2.2.2.2.2.2.2.2.1, ())
     else
      some ((0, (0, (0, (0, (0, (0, (0, (0, (([] : List Int), (0, (0, (false, (0, (0, ((⟨#[]⟩ : ByteArray), (([] : List (Int × (Int × Int))), 0)))))))))))))))), false)
def spec_RunDevice_L10 (spec_DeviceNew : Nat → Unit → Option ((Int × Int × Int × Int × Int × Int × Int × Int × List Int × Int × Int × Bool × Int × Int × ByteArray × (List (Int × (Int × Int))) × Int))) (spec_InOk : Nat → (Int × ByteArray × ByteArray) → Option (Bool)) (spec_TickDevice : Nat → (Int × Int × Int × Int × Int × Int × Int × Int × List Int × Int × Int × Bool × Int × Int × ByteArray × (List (Int × (Int × Int))) × Int) × (Int × ByteArray × ByteArray) → Option ((Int × Int × Int × Int × Int × Int × Int × Int × List Int × Int × Int × Bool × Int × Int × ByteArray × (List (Int × (Int × Int))) × Int))) : Nat → Int × (List (Int × (ByteArray × ByteArray))) × Int × Int × Int × Int × Int × Int × Int × Int × Int × Int × Bool × Int × Int × ByteArray × Int × Int × Int × Int × Int × Int × Int × Int × Int × Int × Int × Bool × Int × Int × ByteArray × Int × List Int × List Int × List Int × (List (Int × (Int × Int))) × Unit → Option ((Int × Int × Int × Int × Int × Int × Int × Int × List Int × Int × Int × Bool × Int × Int × ByteArray × (List (Int × (Int × Int))) × Int) × Bool)
  | 0, _ => none
  | k + 1, (b0, b1, b2, b3, b4, b5, b6, b7, b8, b9, b10, b11, b12, b13, b14, b15, b16, b17, b18, b19, b20, b21, b22, b23, b24, b25, b26, b27, b28, b29, b30, b31, b32, b33, b34, b35, ()) =>
    if b0 < ((List.length b1 : Nat) : Int) then
     if 0 ≤ b0 then
      if b0 < ((List.length b1 : Nat) : Int) then (spec_TickDevice k ((b17, (b18, (b19, (b20, (b21, (b22, (b23, (b24, (b34, (b25, (b26, (b27, (b28, (b29, (b30, (b35, b31)))))))))))))))), (List.getD b1 (Int.toNat b0) (0, ((⟨#[]⟩ : ByteArray), (⟨#[]⟩ : ByteArray)))))).bind fun v0 =>
       spec_RunDevice_L10 spec_DeviceNew spec_InOk spec_TickDevice k ((wrap64 (b0 + 1)), b1, b2, b3, b4, b5, b6, b7, b8, b9, b10, b11, b12, b13, b14, b15, b16, v0.1, v0.2.1, v0.2.2.1, v0.2.2.2.1, v0.2.2.2.2.1, v0.2.2.2.2.2.1, v0.2.2.2.2.2.2.1, v0.2.2.2.2.2.2.2.1, v0.2.2.2.2.2.2.2.2.2.1, v0.2.2.2.2.2.2.2.2.2.2.1, v0.2.2.2.2.2.2.2.2.2.2.2.1, v0.2.2.2.2.2.2.2.2.2.2.2.2.1, v0.2.2.2.2.2.2.2.2.2.2.2.2.2.1, v0.2.2.2.2.2.2.2.2.2.2.2.2.2.2.1, v0.2.2.2.2.2.2.2.2.2.2.2.2.2.2.2.2, b32, b33, v0.2.2.2.2.2.2.2.2.1, v0.2.2.2.2.2.2.2.2.2.2.2.2.2.2.2.1, ()) else none
     else
      none
    else
     some ((b17, (b18, (b19, (b20, (b21, (b22, (b23, (b24, (b34, (b25, (b26, (b27, (b28, (b29, (b30, (b35, b31)))))))))))))))), true)
end
def spec_RunDevice_ (spec_DeviceNew : Nat → Unit → Option ((Int × Int × Int × Int × Int × Int × Int × Int × List Int × Int × Int × Bool × Int × Int × ByteArray × (List (Int × (Int × Int))) × Int))) (spec_InOk : Nat → (Int × ByteArray × ByteArray) → Option (Bool)) (spec_TickDevice : Nat → (Int × Int × Int × Int × Int × Int × Int × Int × List Int × Int × Int × Bool × Int × Int × ByteArray × (List (Int × (Int × Int))) × Int) × (Int × ByteArray × ByteArray) → Option ((Int × Int × Int × Int × Int × Int × Int × Int × List Int × Int × Int × Bool × Int × Int × ByteArray × (List (Int × (Int × Int))) × Int))) (k : Nat) : ((List (Int × (ByteArray × ByteArray)))) → Option ((Int × Int × Int × Int × Int × Int × Int × Int × List Int × Int × Int × Bool × Int × Int × ByteArray × (List (Int × (Int × Int))) × Int) × Bool)
  | a0 =>
  spec_RunDevice_L3 spec_DeviceNew spec_InOk spec_TickDevice k ((decide (((List.length a0 : Nat) : Int) ≤ 150)), 0, a0, 0, 0, 0, 0, 0, 0, 0, 0, 0, 0, false, 0, 0, (⟨#[]⟩ : ByteArray), 0, [], [], ())
noncomputable def g_spec_RunDevice : ((List (Int × (ByteArray × ByteArray)))) → Option ((Int × Int × Int × Int × Int × Int × Int × Int × List Int × Int × Int × Bool × Int × Int × ByteArray × (List (Int × (Int × Int))) × Int) × Bool) := evG (spec_RunDevice_ (fun _ => g_spec_DeviceNew) (fun _ => g_spec_InOk) (fun _ => g_spec_TickDevice))
theorem e_spec_RunDevice : ∀ x b, g_spec_RunDevice x = some b → ∃ k, spec_RunDevice_ (fun _ => g_spec_DeviceNew) (fun _ => g_spec_InOk) (fun _ => g_spec_TickDevice) k x = some b := evG_e _
/- laws_szIn -/
def con_laws_szIn (f : Nat → (Int × ByteArray × ByteArray) × Int → Option (Int)) : Con := ⟨[.agg [.int .i64, .str, .str], .c (.int .i64)], 1, [.v false [.int .i64]], f⟩
def laws_szIn_ (k : Nat) : (Int × ByteArray × ByteArray) × Int → Option (Int)
  | ((a0, a1, a2), a3) =>
  if (wrap64 (a3 - ((ByteArray.size a1 : Nat) : Int))) < 0 then
   some (-1)
  else
   if (wrap64 ((wrap64 (a3 - ((ByteArray.size a1 : Nat) : Int))) - ((ByteArray.size a2 : Nat) : Int))) < 0 then
    some (-1)
   else
    some (wrap64 ((wrap64 (a3 - ((ByteArray.size a1 : Nat) : Int))) - ((ByteArray.size a2 : Nat) : Int)))
noncomputable def g_laws_szIn : (Int × ByteArray × ByteArray) × Int → Option (Int) := laws_szIn_  0
theorem e_laws_szIn : ∀ x b, g_laws_szIn x = some b → ∃ k, laws_szIn_  k x = some b := fun x b h => ⟨0, h⟩
/- laws_szInS -/
def con_laws_szInS (f : Nat → ((List (Int × (ByteArray × ByteArray)))) × Int → Option (Int)) : Con := ⟨[.c (.sl (.pair (.int .i64) (.pair .str .str))), .c (.int .i64)], 1, [.v false [.int .i64]], f⟩
def laws_szInS_L5 (laws_szIn : Nat → (Int × ByteArray × ByteArray) × Int → Option (Int)) : Nat → Int × Int × (List (Int × (ByteArray × ByteArray))) × Unit → Option (Int)
  | 0, _ => none
  | k + 1, (b0, b1, b2, ()) =>
    if b1 < ((List.length b2 : Nat) : Int) then
     if 0 ≤ b1 then
      if b1 < ((List.length b2 : Nat) : Int) then (laws_szIn k ((List.getD b2 (Int.toNat b1) (0, ((⟨#[]⟩ : ByteArray), (⟨#[]⟩ : ByteArray)))), b0)).bind fun v0 =>
       if v0 < 0 then
        some (-1)
       else
        laws_szInS_L5 laws_szIn k (v0, (wrap64 (b1 + 1)), b2, ()) else none
     else
      none
    else
     some b0
def laws_szInS_ (laws_szIn : Nat → (Int × ByteArray × ByteArray) × Int → Option (Int)) (k : Nat) : ((List (Int × (ByteArray × ByteArray)))) × Int → Option (Int)
  | (a0, a1) =>
  if (wrap64 (a1 - ((List.length a0 : Nat) : Int))) < 0 then
   some (-1)
  else
   laws_szInS_L5 laws_szIn k ((wrap64 (a1 - ((List.length a0 : Nat) : Int))), 0, a0, ())
noncomputable def g_laws_szInS : ((List (Int × (ByteArray × ByteArray)))) × Int → Option (Int) := evG (laws_szInS_ (fun _ => g_laws_szIn))
theorem e_laws_szInS : ∀ x b, g_laws_szInS x = some b → ∃ k, laws_szInS_ (fun _ => g_laws_szIn) k x = some b := evG_e _
/- laws_FnExactRunDevice -/
def con_laws_FnExactRunDevice (f : Nat → ((List (Int × (ByteArray × ByteArray)))) → Option (Bool)) : Con := ⟨[.c (.sl (.pair (.int .i64) (.pair .str .str)))], 1, [.v false [.bool]], f⟩
def laws_FnExactRunDevice_ (impl_RunDevice : Nat → ((List (Int × (ByteArray × ByteArray)))) → Option ((Int × Int × Int × Int × Int × Int × Int × Int × List Int × Int × Int × Bool × Int × Int × ByteArray × (List (Int × (Int × Int))) × Int) × Bool)) (laws_eqDevice : Nat → (Int × Int × Int × Int × Int × Int × Int × Int × List Int × Int × Int × Bool × Int × Int × ByteArray × (List (Int × (Int × Int))) × Int) × (Int × Int × Int × Int × Int × Int × Int × Int × List Int × Int × Int × Bool × Int × Int × ByteArray × (List (Int × (Int × Int))) × Int) → Option (Bool)) (laws_eqInS : Nat → ((List (Int × (ByteArray × ByteArray)))) × ((List (Int × (ByteArray × ByteArray)))) → Option (Bool)) (laws_heldDevice : Nat → (Int × Int × Int × Int × Int × Int × Int × Int × List Int × Int × Int × Bool × Int × Int × ByteArray × (List (Int × (Int × Int))) × Int) × Int → Option (Int)) (laws_markDevice : Nat → (Int × Int × Int × Int × Int × Int × Int × Int × List Int × Int × Int × Bool × Int × Int × ByteArray × (List (Int × (Int × Int))) × Int) × Int → Option (Int × List Int × (List (Int × (Int × Int))))) (laws_markInS : Nat → ((List (Int × (ByteArray × ByteArray)))) × Int → Option (Int × (List (Int × (ByteArray × ByteArray))))) (laws_szInS : Nat → ((List (Int × (ByteArray × ByteArray)))) × Int → Option (Int)) (laws_toInS : Nat → ((List (Int × (ByteArray × ByteArray)))) → Option (((List (Int × (ByteArray × ByteArray)))))) (spec_RunDevice : Nat → ((List (Int × (ByteArray × ByteArray)))) → Option ((Int × Int × Int × Int × Int × Int × Int × Int × List Int × Int × Int × Bool × Int × Int × ByteArray × (List (Int × (Int × Int))) × Int) × Bool)) (k : Nat) : ((List (Int × (ByteArray × ByteArray)))) → Option (Bool)
  | a0 =>
  (laws_szInS k (a0, 1048576)).bind fun v0 =>
  if v0 < 0 then
   some true
  else
   (laws_toInS k a0).bind fun v1 =>
   (spec_RunDevice k v1).bind fun v2 =>
   (laws_toInS k a0).bind fun v3 =>
   (impl_RunDevice k v3).bind fun v4 =>
   (laws_eqDevice k (v4.1, v2.1)).bind fun v5 =>
   if v5 = true then
    if (v4.2 == v2.2) = true then
     (laws_toInS k a0).bind fun v6 =>
     (laws_eqInS k (v3, v6)).bind fun v7 =>
     if v7 = true then
      (laws_markInS k (v3, 1)).bind fun v8 =>
      if v8.1 < 0 then
       some false
      else
       (laws_eqDevice k (v4.1, v2.1)).bind fun v9 =>
       if v9 = true then
        if (v4.2 == v2.2) = true then
         (laws_markDevice k (v4.1, 1)).bind fun v10 =>
         (laws_heldDevice k ((v4.1.1, (v4.1.2.1, (v4.1.2.2.1, (v4.1.2.2.2.1, (v4.1.2.2.2.2.1, (v4.1.2.2.2.2.2.1, (v4.1.2.2.2.2.2.2.1, (v4.1.2.2.2.2.2.2.2.1, (v10.2.1, (v4.1.2.2.2.2.2.2.2.2.2.1, (v4.1.2.2.2.2.2.2.2.2.2.2.1, (v4.1.2.2.2.2.2.2.2.2.2.2.2.1, (v4.1.2.2.2.2.2.2.2.2.2.2.2.2.1, (v4.1.2.2.2.2.2.2.2.2.2.2.2.2.2.1, (v4.1.2.2.2.2.2.2.2.2.2.2.2.2.2.2.1, (v10.2.2, v4.1.2.2.2.2.2.2.2.2.2.2.2.2.2.2.2.2)))))))))))))))), 1)).bind fun v11 =>
         if v11 < 0 then
          some false
         else
          if v11 = v10.1 then
           (laws_toInS k a0).bind fun v12 =>
           (impl_RunDevice k v12).bind fun v13 =>
           (laws_eqDevice k (v13.1, v2.1)).bind fun v14 =>
           if v14 = true then
            if (v13.2 == v2.2) = true then
             (laws_heldDevice k ((v4.1.1, (v4.1.2.1, (v4.1.2.2.1, (v4.1.2.2.2.1, (v4.1.2.2.2.2.1, (v4.1.2.2.2.2.2.1, (v4.1.2.2.2.2.2.2.1, (v4.1.2.2.2.2.2.2.2.1, (v10.2.1, (v4.1.2.2.2.2.2.2.2.2.2.1, (v4.1.2.2.2.2.2.2.2.2.2.2.1, (v4.1.2.2.2.2.2.2.2.2.2.2.2.1, (v4.1.2.2.2.2.2.2.2.2.2.2.2.2.1, (v4.1.2.2.2.2.2.2.2.2.2.2.2.2.2.1, (v4.1.2.2.2.2.2.2.2.2.2.2.2.2.2.2.1, (v10.2.2, v4.1.2.2.2.2.2.2.2.2.2.2.2.2.2.2.2.2)))))))))))))))), 1)).bind fun v15 =>
             if v15 < 0 then
              some false
             else
              if v15 = v10.1 then
               some true
              else
               some false
            else
             some false
           else
            some false
          else
           some false
        else
         some false
       else
        some false
     else
      some false
    else
     some false
   else
    some false
noncomputable def g_laws_FnExactRunDevice : ((List (Int × (ByteArray × ByteArray)))) → Option (Bool) := laws_FnExactRunDevice_ (fun _ => g_impl_RunDevice) (fun _ => g_laws_eqDevice) (fun _ => g_laws_eqInS) (fun _ => g_laws_heldDevice) (fun _ => g_laws_markDevice) (fun _ => g_laws_markInS) (fun _ => g_laws_szInS) (fun _ => g_laws_toInS) (fun _ => g_spec_RunDevice) 0
theorem e_laws_FnExactRunDevice : ∀ x b, g_laws_FnExactRunDevice x = some b → ∃ k, laws_FnExactRunDevice_ (fun _ => g_impl_RunDevice) (fun _ => g_laws_eqDevice) (fun _ => g_laws_eqInS) (fun _ => g_laws_heldDevice) (fun _ => g_laws_markDevice) (fun _ => g_laws_markInS) (fun _ => g_laws_szInS) (fun _ => g_laws_toInS) (fun _ => g_spec_RunDevice) k x = some b := fun x b h => ⟨0, h⟩
end Go.Sx.T
