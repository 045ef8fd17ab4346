/- Functions of the program as functions of Lean, and that the program keeps to them. -/
import Derived.Test.YtklcjpidbpplkaaSxP6
set_option maxRecDepth 100000
set_option linter.unusedVariables false
set_option linter.unusedSimpArgs false
namespace Go.Proofs
end Go.Proofs
namespace Go.Sx.T
open Go Go.Sx Go.Proofs Go.RowKit
/- impl_within -/
def con_impl_within (f : Nat → Int × Int × Int → Option (Bool)) : Con := ⟨[.c (.int .i64), .c (.int .i64), .c (.int .i64)], 1, [.v false [.bool]], f⟩
def impl_within_ (k : Nat) : Int × Int × Int → Option (Bool)
  | (a0, a1, a2) =>
  if a1 ≤ a0 then
   some (decide (a0 ≤ a2))
  else
   some false
noncomputable def g_impl_within : Int × Int × Int → Option (Bool) := impl_within_  0
theorem e_impl_within : ∀ x b, g_impl_within x = some b → ∃ k, impl_within_  k x = some b := fun x b h => ⟨0, h⟩
/- impl_OrderOk -/
def con_impl_OrderOk (f : Nat → (Int × Int × Int × Int) → Option (Bool)) : Con := ⟨[.agg [.int .i64, .int .i64, .int .i64, .int .i64]], 1, [.v false [.bool]], f⟩
def impl_OrderOk_ (impl_within : Nat → Int × Int × Int → Option (Bool)) (k : Nat) : (Int × Int × Int × Int) → Option (Bool)
  | (a0, a1, a2, a3) =>
  if a0 = 1 then
   (impl_within k (a2, (1, 1000))).bind fun v0 =>
   if v0 = true then
    (impl_within k (a1, (1, (mn 1000 (wrap64 (3 * a2)))))).bind fun v1 =>
    if v1 = true then
     (impl_within k (a3, (1, 5000))).bind fun v2 =>
     some v2
    else
     some false
   else
    some false
  else
   if a0 = 2 then
    if a0 = 2 then
     if a1 = 0 then
      if a2 = 0 then
       if a3 = a3 then
        (impl_within k (a3, (1, 100))).bind fun v3 =>
        some v3
       else
        some false
      else
       some false
     else
      some false
    else
     some false
   else
    (impl_within k (a0, (3, 6))).bind fun v4 =>
    if v4 = true then
     some ((decide (a0 = a0)) && ((decide (a1 = 0)) && ((decide (a2 = 0)) && (decide (a3 = 0)))))
    else
     some false
noncomputable def g_impl_OrderOk : (Int × Int × Int × Int) → Option (Bool) := impl_OrderOk_ (fun _ => g_impl_within) 0
theorem e_impl_OrderOk : ∀ x b, g_impl_OrderOk x = some b → ∃ k, impl_OrderOk_ (fun _ => g_impl_within) k x = some b := fun x b h => ⟨0, h⟩
/- impl_MenuNew -/
def con_impl_MenuNew (f : Nat → Unit → Option ((Int × Bool × Int × Int × ByteArray))) : Con := ⟨[], 1, [.v true [.int .i64, .bool, .int .i64, .int .i64, .str]], f⟩
def impl_MenuNew_ (k : Nat) : Unit → Option ((Int × Bool × Int × Int × ByteArray))
  | () =>
  some (1, (false, (0, (0, (⟨#[]⟩ : ByteArray)))))
noncomputable def g_impl_MenuNew : Unit → Option ((Int × Bool × Int × Int × ByteArray)) := impl_MenuNew_  0
theorem e_impl_MenuNew : ∀ x b, g_impl_MenuNew x = some b → ∃ k, impl_MenuNew_  k x = some b := fun x b h => ⟨0, h⟩
/- impl_typed -/
def con_impl_typed (f : Nat → ByteArray → Option (Int)) : Con := ⟨[.c (.str)], 1, [.v false [.int .i64]], f⟩
def impl_typed_L3 : Nat → ByteArray × Int × Int × Int × Unit → Option (Int)
  | 0, _ => none
  | k + 1, (b0, b1, b2, b3, ()) =>
    if b3 < b2 then
     if 0 ≤ b3 then
      if b3 < ((ByteArray.size b0 : Nat) : Int) then impl_typed_L3 k (b0, (wrap64 ((wrap64 (10 * b1)) + (wrap64 (wr .u8 ((byt b0 b3) - 48))))), b2, (wrap64 (b3 + 1)), ()) else none
     else
      none
    else
     some b1
def impl_typed_ (k : Nat) : ByteArray → Option (Int)
  | a0 =>
  impl_typed_L3 k (a0, 0, ((ByteArray.size a0 : Nat) : Int), 0, ())
noncomputable def g_impl_typed : ByteArray → Option (Int) := evG (impl_typed_ )
theorem e_impl_typed : ∀ x b, g_impl_typed x = some b → ∃ k, impl_typed_  k x = some b := evG_e _
/- impl_Menu__enter -/
def con_impl_Menu__enter (f : Nat → (Int × Bool × Int × Int × ByteArray) → Option ((Int × Bool × Int × Int × ByteArray) × (Int × Int × Int × Int) × Bool)) : Con := ⟨[.agg [.int .i64, .bool, .int .i64, .int .i64, .str]], 3, [.v true [.int .i64, .bool, .int .i64, .int .i64, .str], .v true [.int .i64, .int .i64, .int .i64, .int .i64], .v false [.bool]], f⟩
def impl_Menu__enter_ (impl_MenuNew : Nat → Unit → Option ((Int × Bool × Int × Int × ByteArray))) (impl_OrderOk : Nat → (Int × Int × Int × Int) → Option (Bool)) (impl_typed : Nat → ByteArray → Option (Int)) (k : Nat) : (Int × Bool × Int × Int × ByteArray) → Option ((Int × Bool × Int × Int × ByteArray) × (Int × Int × Int × Int) × Bool)
  | (a0, a1, a2, a3, a4) =>
  (impl_typed k a4).bind fun v0 =>
  if a0 = 2 then
   some ((3, (a1, (v0, (a3, (⟨#[]⟩ : ByteArray))))), ((0, (0, (0, 0))), false))
  else
   if a0 = 3 then
    some ((4, (a1, (a2, (v0, (⟨#[]⟩ : ByteArray))))), ((0, (0, (0, 0))), false))
   else
    if a1 = true then
     (impl_OrderOk k (2, (0, (0, v0)))).bind fun v1 =>
     if v1 = true then
      (impl_MenuNew k ()).bind fun v2 =>
      some (v2, ((2, (0, (0, v0))), true))
     else
      (impl_MenuNew k ()).bind fun v3 =>
      some (v3, ((0, (0, (0, 0))), false))
    else
     (impl_OrderOk k (1, (a2, (a3, v0)))).bind fun v4 =>
     if v4 = true then
      (impl_MenuNew k ()).bind fun v5 =>
      some (v5, ((1, (a2, (a3, v0))), true))
     else
      (impl_MenuNew k ()).bind fun v6 =>
      some (v6, ((0, (0, (0, 0))), false))
noncomputable def g_impl_Menu__enter : (Int × Bool × Int × Int × ByteArray) → Option ((Int × Bool × Int × Int × ByteArray) × (Int × Int × Int × Int) × Bool) := impl_Menu__enter_ (fun _ => g_impl_MenuNew) (fun _ => g_impl_OrderOk) (fun _ => g_impl_typed) 0
theorem e_impl_Menu__enter : ∀ x b, g_impl_Menu__enter x = some b → ∃ k, impl_Menu__enter_ (fun _ => g_impl_MenuNew) (fun _ => g_impl_OrderOk) (fun _ => g_impl_typed) k x = some b := fun x b h => ⟨0, h⟩
/- impl_Menu__top -/
def con_impl_Menu__top (f : Nat → (Int × Bool × Int × Int × ByteArray) × Int → Option ((Int × Bool × Int × Int × ByteArray) × (Int × Int × Int × Int) × Bool)) : Con := ⟨[.agg [.int .i64, .bool, .int .i64, .int .i64, .str], .c (.int .i64)], 3, [.v true [.int .i64, .bool, .int .i64, .int .i64, .str], .v true [.int .i64, .int .i64, .int .i64, .int .i64], .v false [.bool]], f⟩
def impl_Menu__top_ (k : Nat) : (Int × Bool × Int × Int × ByteArray) × Int → Option ((Int × Bool × Int × Int × ByteArray) × (Int × Int × Int × Int) × Bool)
  | ((a0, a1, a2, a3, a4), a5) =>
  if a5 = 98 then
   some ((2, (false, (0, (0, (⟨#[]⟩ : ByteArray))))), ((0, (0, (0, 0))), false))
  else
   if a5 = 111 then
    some ((4, (true, (0, (0, (⟨#[]⟩ : ByteArray))))), ((0, (0, (0, 0))), false))
   else
    if a5 = 112 then
     some ((a0, (a1, (a2, (a3, a4)))), ((3, (0, (0, 0))), true))
    else
     if a5 = 103 then
      some ((a0, (a1, (a2, (a3, a4)))), ((4, (0, (0, 0))), true))
     else
      if a5 = 115 then
       some ((a0, (a1, (a2, (a3, a4)))), ((5, (0, (0, 0))), true))
      else
       if a5 = 120 then
        some ((a0, (a1, (a2, (a3, a4)))), ((6, (0, (0, 0))), true))
       else
        some ((a0, (a1, (a2, (a3, a4)))), ((0, (0, (0, 0))), false))
noncomputable def g_impl_Menu__top : (Int × Bool × Int × Int × ByteArray) × Int → Option ((Int × Bool × Int × Int × ByteArray) × (Int × Int × Int × Int) × Bool) := impl_Menu__top_  0
theorem e_impl_Menu__top : ∀ x b, g_impl_Menu__top x = some b → ∃ k, impl_Menu__top_  k x = some b := fun x b h => ⟨0, h⟩
/- impl_MenuOk -/
def con_impl_MenuOk (f : Nat → (Int × Bool × Int × Int × ByteArray) → Option (Bool)) : Con := ⟨[.agg [.int .i64, .bool, .int .i64, .int .i64, .str]], 1, [.v false [.bool]], f⟩
def impl_MenuOk_L2 (impl_MenuNew : Nat → Unit → Option ((Int × Bool × Int × Int × ByteArray))) (impl_within : Nat → Int × Int × Int → Option (Bool)) : Nat → Int × Int × Int × Bool × Int × Int × ByteArray × Unit → Option (Bool)
  | 0, _ => none
  | k + 1, (b0, b1, b2, b3, b4, b5, b6, ()) =>
    if b1 < b0 then
     if 0 ≤ b1 then
      if b1 < ((ByteArray.size b6 : Nat) : Int) then (impl_within k ((wrap64 (byt b6 b1)), (48, 57))).bind fun v0 =>
       if v0 = true then
        impl_MenuOk_L2 impl_MenuNew impl_within k (b0, (wrap64 (b1 + 1)), b2, b3, b4, b5, b6, ())
       else
        some false else none
     else
      none
    else
     if b2 = 1 then
      (impl_MenuNew k ()).bind fun v1 =>
      some ((decide (b2 = v1.1)) && ((b3 == v1.2.1) && ((decide (b4 = v1.2.2.1)) && ((decide (b5 = v1.2.2.2.1)) && (decide (b6 = v1.2.2.2.2))))))
     else
      (impl_within k (b2, (2, 4))).bind fun v2 =>
      if v2 = true then
       (impl_within k (b4, (0, 9999))).bind fun v3 =>
       if v3 = true then
        (impl_within k (b5, (0, 9999))).bind fun v4 =>
        if v4 = true then
         some (decide (((ByteArray.size b6 : Nat) : Int) ≤ 4))
        else
         some false
       else
        some false
      else
       some false
def impl_MenuOk_ (impl_MenuNew : Nat → Unit → Option ((Int × Bool × Int × Int × ByteArray))) (impl_within : Nat → Int × Int × Int → Option (Bool)) (k : Nat) : (Int × Bool × Int × Int × ByteArray) → Option (Bool)
  | (a0, a1, a2, a3, a4) =>
  impl_MenuOk_L2 impl_MenuNew impl_within k (((ByteArray.size a4 : Nat) : Int), 0, a0, a1, a2, a3, a4, ())
noncomputable def g_impl_MenuOk : (Int × Bool × Int × Int × ByteArray) → Option (Bool) := evG (impl_MenuOk_ (fun _ => g_impl_MenuNew) (fun _ => g_impl_within))
theorem e_impl_MenuOk : ∀ x b, g_impl_MenuOk x = some b → ∃ k, impl_MenuOk_ (fun _ => g_impl_MenuNew) (fun _ => g_impl_within) k x = some b := evG_e _
/- impl_Press -/
def con_impl_Press (f : Nat → (Int × Bool × Int × Int × ByteArray) × Int → Option ((Int × Bool × Int × Int × ByteArray) × (Int × Int × Int × Int) × Bool)) : Con := ⟨[.agg [.int .i64, .bool, .int .i64, .int .i64, .str], .c (.int .i64)], 3, [.v true [.int .i64, .bool, .int .i64, .int .i64, .str], .v true [.int .i64, .int .i64, .int .i64, .int .i64], .v false [.bool]], f⟩
def impl_Press_ (impl_MenuNew : Nat → Unit → Option ((Int × Bool × Int × Int × ByteArray))) (impl_MenuOk : Nat → (Int × Bool × Int × Int × ByteArray) → Option (Bool)) (impl_Menu__enter : Nat → (Int × Bool × Int × Int × ByteArray) → Option ((Int × Bool × Int × Int × ByteArray) × (Int × Int × Int × Int) × Bool)) (impl_Menu__top : Nat → (Int × Bool × Int × Int × ByteArray) × Int → Option ((Int × Bool × Int × Int × ByteArray) × (Int × Int × Int × Int) × Bool)) (impl_within : Nat → Int × Int × Int → Option (Bool)) (k : Nat) : (Int × Bool × Int × Int × ByteArray) × Int → Option ((Int × Bool × Int × Int × ByteArray) × (Int × Int × Int × Int) × Bool)
  | ((a0, a1, a2, a3, a4), a5) =>
  (impl_MenuOk k (a0, (a1, (a2, (a3, a4))))).bind fun v0 =>
  if v0 = true then
   if a0 = 1 then
    (impl_Menu__top k ((a0, (a1, (a2, (a3, a4)))), a5)).bind fun v1 =>
    some v1
   else
    if a5 = 10 then
     (impl_Menu__enter k (a0, (a1, (a2, (a3, a4))))).bind fun v2 =>
     some v2
    else
     if a5 = 99 then
      (impl_MenuNew k ()).bind fun v3 =>
      some (v3, ((0, (0, (0, 0))), false))
     else
      (impl_within k (a5, (48, 57))).bind fun v4 =>
      if v4 = true then
       if ((ByteArray.size a4 : Nat) : Int) < 4 then
        if ((ByteArray.size a4 + ByteArray.size (bstr [(wr .u8 a5)]) : Nat) : Int) ≤ 9223372036854775807 then some ((a0, (a1, (a2, (a3, (a4 ++ (bstr [(wr .u8 a5)])))))), ((0, (0, (0, 0))), false)) else none
       else
        some ((a0, (a1, (a2, (a3, a4)))), ((0, (0, (0, 0))), false))
      else
       some ((a0, (a1, (a2, (a3, a4)))), ((0, (0, (0, 0))), false))
  else
   some ((a0, (a1, (a2, (a3, a4)))), ((0, (0, (0, 0))), false))
noncomputable def g_impl_Press : (Int × Bool × Int × Int × ByteArray) × Int → Option ((Int × Bool × Int × Int × ByteArray) × (Int × Int × Int × Int) × Bool) := impl_Press_ (fun _ => g_impl_MenuNew) (fun _ => g_impl_MenuOk) (fun _ => g_impl_Menu__enter) (fun _ => g_impl_Menu__top) (fun _ => g_impl_within) 0
theorem e_impl_Press : ∀ x b, g_impl_Press x = some b → ∃ k, impl_Press_ (fun _ => g_impl_MenuNew) (fun _ => g_impl_MenuOk) (fun _ => g_impl_Menu__enter) (fun _ => g_impl_Menu__top) (fun _ => g_impl_within) k x = some b := fun x b h => ⟨0, h⟩
/- impl_PressAll -/
def con_impl_PressAll (f : Nat → (Int × Bool × Int × Int × ByteArray) × ByteArray → Option ((Int × Bool × Int × Int × ByteArray) × ((List (Int × (Int × (Int × Int))))))) : Con := ⟨[.agg [.int .i64, .bool, .int .i64, .int .i64, .str], .c (.str)], 2, [.v true [.int .i64, .bool, .int .i64, .int .i64, .str], .v false [.own (.pair (.int .i64) (.pair (.int .i64) (.pair (.int .i64) (.int .i64)))) 55]], f⟩
def impl_PressAll_L3 (impl_Press : Nat → (Int × Bool × Int × Int × ByteArray) × Int → Option ((Int × Bool × Int × Int × ByteArray) × (Int × Int × Int × Int) × Bool)) : Nat → ByteArray × Int × Int × Int × Bool × Int × Int × ByteArray × Int × Bool × Int × Int × ByteArray × (List (Int × (Int × (Int × Int)))) × Unit → Option ((Int × Bool × Int × Int × ByteArray) × ((List (Int × (Int × (Int × Int))))))
  | 0, _ => none
  | k + 1, (b0, b1, b2, b3, b4, b5, b6, b7, b8, b9, b10, b11, b12, b13, ()) =>
    if b2 < b1 then
     if 0 ≤ b2 then
      if b2 < ((ByteArray.size b0 : Nat) : Int) then (impl_Press k ((b3, (b4, (b5, (b6, b7)))), (wrap64 (byt b0 b2)))).bind fun v0 =>
       if v0.2.2 = true then
        if (((List.length b13 + List.length [v0.2.1] : Nat) : Int) * ((32 : Nat) : Int)) ≤ 140737488355328 then impl_PressAll_L3 impl_Press k (b0, b1, (wrap64 (b2 + 1)), v0.1.1, v0.1.2.1, v0.1.2.2.1, v0.1.2.2.2.1, v0.1.2.2.2.2, b8, b9, b10, b11, b12, (b13 ++ [v0.2.1]), ()) else none
       else
        impl_PressAll_L3 impl_Press k (b0, b1, (wrap64 (b2 + 1)), v0.1.1, v0.1.2.1, v0.1.2.2.1, v0.1.2.2.2.1, v0.1.2.2.2.2, b8, b9, b10, b11, b12, b13, ()) else none
     else
      none
    else
     some ((b3, (b4, (b5, (b6, b7)))), b13)
def impl_PressAll_ (impl_Press : Nat → (Int × Bool × Int × Int × ByteArray) × Int → Option ((Int × Bool × Int × Int × ByteArray) × (Int × Int × Int × Int) × Bool)) (k : Nat) : (Int × Bool × Int × Int × ByteArray) × ByteArray → Option ((Int × Bool × Int × Int × ByteArray) × ((List (Int × (Int × (Int × Int))))))
  | ((a0, a1, a2, a3, a4), a5) =>
  impl_PressAll_L3 impl_Press k (a5, ((ByteArray.size a5 : Nat) : Int), 0, a0, a1, a2, a3, a4, 0, false, 0, 0, (⟨#[]⟩ : ByteArray), ([] : List (Int × (Int × (Int × Int)))), ())
noncomputable def g_impl_PressAll : (Int × Bool × Int × Int × ByteArray) × ByteArray → Option ((Int × Bool × Int × Int × ByteArray) × ((List (Int × (Int × (Int × Int)))))) := evG (impl_PressAll_ (fun _ => g_impl_Press))
theorem e_impl_PressAll : ∀ x b, g_impl_PressAll x = some b → ∃ k, impl_PressAll_ (fun _ => g_impl_Press) k x = some b := evG_e _
/- spec_l01Byte -/
def con_spec_l01Byte (f : Nat → (List Int × Int × Int) → Option (Int × (Unit × Int × Int))) : Con := ⟨[.ptr [.sl (.int .u8), .int .i64, .int .i64] 114], 1, [.v false [.int .i64], .box [.keep, .int .i64, .int .i64] 114], f⟩
def spec_l01Byte_ (k : Nat) : (List Int × Int × Int) → Option (Int × (Unit × Int × Int))
  | (a0, a1, a2) =>
  if 0 ≤ 33 then
   if 0 ≤ 45 then
    if a1 < ((List.length a0 : Nat) : Int) then
     if 0 ≤ a1 then
      if a1 < ((List.length a0 : Nat) : Int) then some ((iand .i64 (wrap64 ((iand .i64 (ixor .i64 (Int.fdiv (wrap64 ((wrap64 (a2 * 6364136223846793005)) + 1442695040888963407)) (2 ^ (min (Int.toNat 33) (IntKind.bits .i64)))) (Int.fdiv (wrap64 ((wrap64 (a2 * 6364136223846793005)) + 1442695040888963407)) (2 ^ (min (Int.toNat 45) (IntKind.bits .i64))))) 255) + (wrap64 (List.getD a0 (Int.toNat a1) 0)))) 255), ((), ((wrap64 (a1 + 1)), (wrap64 ((wrap64 (a2 * 6364136223846793005)) + 1442695040888963407))))) else none
     else
      none
    else
     some ((iand .i64 (ixor .i64 (Int.fdiv (wrap64 ((wrap64 (a2 * 6364136223846793005)) + 1442695040888963407)) (2 ^ (min (Int.toNat 33) (IntKind.bits .i64)))) (Int.fdiv (wrap64 ((wrap64 (a2 * 6364136223846793005)) + 1442695040888963407)) (2 ^ (min (Int.toNat 45) (IntKind.bits .i64))))) 255), ((), (a1, (wrap64 ((wrap64 (a2 * 6364136223846793005)) + 1442695040888963407)))))
   else
    none
  else
   none
noncomputable def g_spec_l01Byte : (List Int × Int × Int) → Option (Int × (Unit × Int × Int)) := spec_l01Byte_  0
theorem e_spec_l01Byte : ∀ x b, g_spec_l01Byte x = some b → ∃ k, spec_l01Byte_  k x = some b := fun x b h => ⟨0, h⟩
/- spec_l01Below -/
def con_spec_l01Below (f : Nat → (List Int × Int × Int) × Int → Option (Int × (Unit × Int × Int))) : Con := ⟨[.ptr [.sl (.int .u8), .int .i64, .int .i64] 114, .c (.int .i64)], 1, [.v false [.int .i64], .box [.keep, .int .i64, .int .i64] 114], f⟩
def spec_l01Below_ (spec_l01Byte : Nat → (List Int × Int × Int) → Option (Int × (Unit × Int × Int))) (k : Nat) : (List Int × Int × Int) × Int → Option (Int × (Unit × Int × Int))
  | ((a0, a1, a2), a3) =>
  if a3 ≤ 0 then
   some (0, ((), (a1, a2)))
  else
   if a3 ≤ 256 then
    (spec_l01Byte k (a0, (a1, a2))).bind fun v0 =>
    if a3 = 0 then
     none
    else
     some ((Int.tmod v0.1 a3), ((), v0.2.2))
   else
    (spec_l01Byte k (a0, (a1, a2))).bind fun v1 =>
    (spec_l01Byte k (a0, v1.2.2)).bind fun v2 =>
    (spec_l01Byte k (a0, v2.2.2)).bind fun v3 =>
    (spec_l01Byte k (a0, v3.2.2)).bind fun v4 =>
    if a3 = 0 then
     none
    else
     some ((Int.tmod (wrap64 ((wrap64 ((wrap64 ((wrap64 (v1.1 * 16777216)) + (wrap64 (v2.1 * 65536)))) + (wrap64 (v3.1 * 256)))) + v4.1)) a3), ((), v4.2.2))
noncomputable def g_spec_l01Below : (List Int × Int × Int) × Int → Option (Int × (Unit × Int × Int)) := spec_l01Below_ (fun _ => g_spec_l01Byte) 0
theorem e_spec_l01Below : ∀ x b, g_spec_l01Below x = some b → ∃ k, spec_l01Below_ (fun _ => g_spec_l01Byte) k x = some b := fun x b h => ⟨0, h⟩
/- spec_l01In -/
def con_spec_l01In (f : Nat → Int × Int × Int → Option (Bool)) : Con := ⟨[.c (.int .i64), .c (.int .i64), .c (.int .i64)], 1, [.v false [.bool]], f⟩
def spec_l01In_ (k : Nat) : Int × Int × Int → Option (Bool)
  | (a0, a1, a2) =>
  if a1 ≤ a0 then
   some (decide (a0 ≤ a2))
  else
   some false
noncomputable def g_spec_l01In : Int × Int × Int → Option (Bool) := spec_l01In_  0
theorem e_spec_l01In : ∀ x b, g_spec_l01In x = some b → ∃ k, spec_l01In_  k x = some b := fun x b h => ⟨0, h⟩
/- spec_OrderOk -/
def con_spec_OrderOk (f : Nat → (Int × Int × Int × Int) → Option (Bool)) : Con := ⟨[.agg [.int .i64, .int .i64, .int .i64, .int .i64]], 1, [.v false [.bool]], f⟩
def spec_OrderOk_ (spec_l01In : Nat → Int × Int × Int → Option (Bool)) (k : Nat) : (Int × Int × Int × Int) → Option (Bool)
  | (a0, a1, a2, a3) =>
  if a0 = 1 then
   (spec_l01In k (a2, (1, 1000))).bind fun v0 =>
   if v0 = true then
    (spec_l01In k (a1, (1, 1000))).bind fun v1 =>
    if v1 = true then
     if a1 ≤ (wrap64 (3 * a2)) then
      (spec_l01In k (a3, (1, 5000))).bind fun v2 =>
      some v2
     else
      some false
    else
     some false
   else
    some false
  else
   if a0 = 2 then
    (spec_l01In k (a3, (1, 100))).bind fun v3 =>
    if v3 = true then
     if a1 = 0 then
      some (decide (a2 = 0))
     else
      some false
    else
     some false
   else
    (spec_l01In k (a0, (3, 6))).bind fun v4 =>
    if v4 = true then
     if a1 = 0 then
      if a2 = 0 then
       some (decide (a3 = 0))
      else
       some false
     else
      some false
    else
     some false
noncomputable def g_spec_OrderOk : (Int × Int × Int × Int) → Option (Bool) := spec_OrderOk_ (fun _ => g_spec_l01In) 0
theorem e_spec_OrderOk : ∀ x b, g_spec_OrderOk x = some b → ∃ k, spec_OrderOk_ (fun _ => g_spec_l01In) k x = some b := fun x b h => ⟨0, h⟩
/- spec_l01New -/
def con_spec_l01New (f : Nat → List Int → Option ((Unit × Int × Int))) : Con := ⟨[.c (.sl (.int .u8))], 1, [.box [.al 0 0, .int .i64, .int .i64] 114], f⟩
def spec_l01New_L3 : Nat → Int × Int × List Int × Unit → Option ((Unit × Int × Int))
  | 0, _ => none
  | k + 1, (b0, b1, b2, ()) =>
    if b1 < ((List.length b2 : Nat) : Int) then
     if b1 < 4000 then
      if 0 ≤ b1 then
       if b1 < ((List.length b2 : Nat) : Int) then spec_l01New_L3 k ((iand .i64 (wrap64 ((wrap64 ((wrap64 (b0 * 131)) + (wrap64 (List.getD b2 (Int.toNat b1) 0)))) + 7)) 1073741823), (wrap64 (b1 + 1)), b2, ()) else none
      else
       none
     else
      some ((), (0, b0))
    else
     some ((), (0, b0))
def spec_l01New_ (k : Nat) : List Int → Option ((Unit × Int × Int))
  | a0 =>
  spec_l01New_L3 k ((wrap64 (37101 + ((List.length a0 : Nat) : Int))), 0, a0, ())
noncomputable def g_spec_l01New : List Int → Option ((Unit × Int × Int)) := evG (spec_l01New_ )
theorem e_spec_l01New : ∀ x b, g_spec_l01New x = some b → ∃ k, spec_l01New_  k x = some b := evG_e _
/- laws_big -/
def con_laws_big (f : Nat → List Int → Option (Bool)) : Con := ⟨[.c (.sl (.int .u8))], 1, [.v false [.bool]], f⟩
def laws_big_ (k : Nat) : List Int → Option (Bool)
  | a0 =>
  some (decide (1048576 < ((List.length a0 : Nat) : Int)))
noncomputable def g_laws_big : List Int → Option (Bool) := laws_big_  0
theorem e_laws_big : ∀ x b, g_laws_big x = some b → ∃ k, laws_big_  k x = some b := fun x b h => ⟨0, h⟩
/- spec_DrawPlaces -/
def con_spec_DrawPlaces (f : Nat → List Int → Option (List Int)) : Con := ⟨[.c (.sl (.int .u8))], 1, [.v false [.own (.int .i64) 3]], f⟩
def spec_DrawPlaces_L5 (spec_l01Below : Nat → (List Int × Int × Int) × Int → Option (Int × (Unit × Int × Int))) (spec_l01Byte : Nat → (List Int × Int × Int) → Option (Int × (Unit × Int × Int))) (spec_l01New : Nat → List Int → Option ((Unit × Int × Int))) : Nat → Int × List Int × Int × Int × List Int × Unit → Option (List Int)
  | 0, _ => none
  | k + 1, (b0, b1, b2, b3, b4, ()) =>
    if b0 < 12 then
     (spec_l01Below k ((b1, (b2, b3)), 10000)).bind fun v0 =>
     if (((List.length b4 + List.length [v0.1] : Nat) : Int) * ((8 : Nat) : Int)) ≤ 140737488355328 then spec_DrawPlaces_L5 spec_l01Below spec_l01Byte spec_l01New k ((wrap64 (b0 + 1)), b1, v0.2.2.1, v0.2.2.2, (b4 ++ [v0.1]), ()) else none
    else
     some b4
def spec_DrawPlaces_ (spec_l01Below : Nat → (List Int × Int × Int) × Int → Option (Int × (Unit × Int × Int))) (spec_l01Byte : Nat → (List Int × Int × Int) → Option (Int × (Unit × Int × Int))) (spec_l01New : Nat → List Int → Option ((Unit × Int × Int))) (k : Nat) : List Int → Option (List Int)
  | a0 =>
  (spec_l01New k a0).bind fun v0 =>
  (spec_l01Byte k (a0, v0.2)).bind fun v1 =>
  spec_DrawPlaces_L5 spec_l01Below spec_l01Byte spec_l01New k (0, a0, v1.2.2.1, v1.2.2.2, ([] : List Int), ())
noncomputable def g_spec_DrawPlaces : List Int → Option (List Int) := evG (spec_DrawPlaces_ (fun _ => g_spec_l01Below) (fun _ => g_spec_l01Byte) (fun _ => g_spec_l01New))
theorem e_spec_DrawPlaces : ∀ x b, g_spec_DrawPlaces x = some b → ∃ k, spec_DrawPlaces_ (fun _ => g_spec_l01Below) (fun _ => g_spec_l01Byte) (fun _ => g_spec_l01New) k x = some b := evG_e _
/- spec_l01Figure -/
def con_spec_l01Figure (f : Nat → Int → Option (Int)) : Con := ⟨[.c (.int .i64)], 1, [.v false [.int .u8]], f⟩
def spec_l01Figure_ (k : Nat) : Int → Option (Int)
  | a0 =>
  if a0 < 10 then
   some (wr .u8 (wrap64 (48 + a0)))
  else
   some (wr .u8 (wrap64 ((wrap64 (97 + a0)) - 10)))
noncomputable def g_spec_l01Figure : Int → Option (Int) := spec_l01Figure_  0
theorem e_spec_l01Figure : ∀ x b, g_spec_l01Figure x = some b → ∃ k, spec_l01Figure_  k x = some b := fun x b h => ⟨0, h⟩
/- spec_Decimal -/
def con_spec_Decimal (f : Nat → Int → Option (ByteArray)) : Con := ⟨[.c (.int .i64)], 1, [.v false [.str]], f⟩
def spec_Decimal_L5 (spec_l01Figure : Nat → Int → Option (Int)) : Nat → Int × Bool × ByteArray × Unit → Option (ByteArray)
  | 0, _ => none
  | k + 1, (b0, b1, b2, ()) =>
    if b0 = 0 then
     if b1 = true then
      if ((ByteArray.size (⟨#[45]⟩ : ByteArray) + ByteArray.size b2 : Nat) : Int) ≤ 9223372036854775807 then some ((⟨#[45]⟩ : ByteArray) ++ b2) else none
     else
      some b2
    else
     if 10 = 0 then
      none
     else
      if (Int.tmod b0 10) < 0 then
       (spec_l01Figure k (wrap64 (0 - (Int.tmod b0 10)))).bind fun v0 =>
       if ((ByteArray.size (bstr [v0]) + ByteArray.size b2 : Nat) : Int) ≤ 9223372036854775807 then
        if 10 = 0 then
         none
        else
         spec_Decimal_L5 spec_l01Figure k ((wrap64 (Int.tdiv b0 10)), b1, ((bstr [v0]) ++ b2), ())
       else
        none
      else
       (spec_l01Figure k (Int.tmod b0 10)).bind fun v1 =>
       if ((ByteArray.size (bstr [v1]) + ByteArray.size b2 : Nat) : Int) ≤ 9223372036854775807 then
        if 10 = 0 then
         none
        else
         spec_Decimal_L5 spec_l01Figure k ((wrap64 (Int.tdiv b0 10)), b1, ((bstr [v1]) ++ b2), ())
       else
        none
def spec_Decimal_ (spec_l01Figure : Nat → Int → Option (Int)) (k : Nat) : Int → Option (ByteArray)
  | a0 =>
  if a0 = 0 then
   some (⟨#[48]⟩ : ByteArray)
  else
   spec_Decimal_L5 spec_l01Figure k (a0, (decide (a0 < 0)), (⟨#[]⟩ : ByteArray), ())
noncomputable def g_spec_Decimal : Int → Option (ByteArray) := evG (spec_Decimal_ (fun _ => g_spec_l01Figure))
theorem e_spec_Decimal : ∀ x b, g_spec_Decimal x = some b → ∃ k, spec_Decimal_ (fun _ => g_spec_l01Figure) k x = some b := evG_e _
/- laws_FnTyped -/
def con_laws_FnTyped (f : Nat → List Int → Option (Bool)) : Con := ⟨[.c (.sl (.int .u8))], 1, [.v false [.bool]], f⟩
def laws_FnTyped_ (impl_MenuNew : Nat → Unit → Option ((Int × Bool × Int × Int × ByteArray))) (impl_PressAll : Nat → (Int × Bool × Int × Int × ByteArray) × ByteArray → Option ((Int × Bool × Int × Int × ByteArray) × ((List (Int × (Int × (Int × Int))))))) (laws_big : Nat → List Int → Option (Bool)) (spec_Decimal : Nat → Int → Option (ByteArray)) (spec_DrawPlaces : Nat → List Int → Option (List Int)) (spec_OrderOk : Nat → (Int × Int × Int × Int) → Option (Bool)) (k : Nat) : List Int → Option (Bool)
  | a0 =>
  (laws_big k a0).bind fun v0 =>
  if v0 = true then
   some true
  else
   (spec_DrawPlaces k a0).bind fun v1 =>
   if 0 ≤ 0 then
    if 0 < ((List.length v1 : Nat) : Int) then
     if 1200 = 0 then
      none
     else
      if 0 ≤ 1 then
       if 1 < ((List.length v1 : Nat) : Int) then
        if 1200 = 0 then
         none
        else
         if 0 ≤ 2 then
          if 2 < ((List.length v1 : Nat) : Int) then
           if 6000 = 0 then
            none
           else
            (spec_Decimal k (Int.tmod (List.getD v1 (Int.toNat 0) 0) 1200)).bind fun v2 =>
            if ((ByteArray.size (⟨#[98]⟩ : ByteArray) + ByteArray.size v2 : Nat) : Int) ≤ 9223372036854775807 then
             if ((ByteArray.size ((⟨#[98]⟩ : ByteArray) ++ v2) + ByteArray.size (⟨#[10]⟩ : ByteArray) : Nat) : Int) ≤ 9223372036854775807 then (spec_Decimal k (Int.tmod (List.getD v1 (Int.toNat 1) 0) 1200)).bind fun v3 =>
              if ((ByteArray.size (((⟨#[98]⟩ : ByteArray) ++ v2) ++ (⟨#[10]⟩ : ByteArray)) + ByteArray.size v3 : Nat) : Int) ≤ 9223372036854775807 then
               if ((ByteArray.size ((((⟨#[98]⟩ : ByteArray) ++ v2) ++ (⟨#[10]⟩ : ByteArray)) ++ v3) + ByteArray.size (⟨#[10]⟩ : ByteArray) : Nat) : Int) ≤ 9223372036854775807 then (spec_Decimal k (Int.tmod (List.getD v1 (Int.toNat 2) 0) 6000)).bind fun v4 =>
                if ((ByteArray.size (((((⟨#[98]⟩ : ByteArray) ++ v2) ++ (⟨#[10]⟩ : ByteArray)) ++ v3) ++ (⟨#[10]⟩ : ByteArray)) + ByteArray.size v4 : Nat) : Int) ≤ 9223372036854775807 then
                 if ((ByteArray.size ((((((⟨#[98]⟩ : ByteArray) ++ v2) ++ (⟨#[10]⟩ : ByteArray)) ++ v3) ++ (⟨#[10]⟩ : ByteArray)) ++ v4) + ByteArray.size (⟨#[10]⟩ : ByteArray) : Nat) : Int) ≤ 9223372036854775807 then (impl_MenuNew k ()).bind fun v5 =>
                  (impl_PressAll k (v5, (((((((⟨#[98]⟩ : ByteArray) ++ v2) ++ (⟨#[10]⟩ : ByteArray)) ++ v3) ++ (⟨#[10]⟩ : ByteArray)) ++ v4) ++ (⟨#[10]⟩ : ByteArray)))).bind fun v6 =>
                  if 0 ≤ 3 then
                   if 3 < ((List.length v1 : Nat) : Int) then
                    if 200 = 0 then
                     none
                    else
                     (spec_Decimal k (Int.tmod (List.getD v1 (Int.toNat 3) 0) 200)).bind fun v7 =>
                     if ((ByteArray.size (⟨#[111]⟩ : ByteArray) + ByteArray.size v7 : Nat) : Int) ≤ 9223372036854775807 then
                      if ((ByteArray.size ((⟨#[111]⟩ : ByteArray) ++ v7) + ByteArray.size (⟨#[10]⟩ : ByteArray) : Nat) : Int) ≤ 9223372036854775807 then (impl_PressAll k (v6.1, (((⟨#[111]⟩ : ByteArray) ++ v7) ++ (⟨#[10]⟩ : ByteArray)))).bind fun v8 =>
                       (impl_MenuNew k ()).bind fun v9 =>
                       (impl_PressAll k (v9, (⟨#[98, 49, 50, 99]⟩ : ByteArray))).bind fun v10 =>
                       (impl_MenuNew k ()).bind fun v11 =>
                       if v6.1.1 = v11.1 then
                        if (v6.1.2.1 == v11.2.1) = true then
                         if v6.1.2.2.1 = v11.2.2.1 then
                          if v6.1.2.2.2.1 = v11.2.2.2.1 then
                           if v6.1.2.2.2.2 = v11.2.2.2.2 then
                            if v8.1.1 = v6.1.1 then
                             if (v8.1.2.1 == v6.1.2.1) = true then
                              if v8.1.2.2.1 = v6.1.2.2.1 then
                               if v8.1.2.2.2.1 = v6.1.2.2.2.1 then
                                if v8.1.2.2.2.2 = v6.1.2.2.2.2 then
                                 if v10.1.1 = v6.1.1 then
                                  if (v10.1.2.1 == v6.1.2.1) = true then
                                   if v10.1.2.2.1 = v6.1.2.2.1 then
                                    if v10.1.2.2.2.1 = v6.1.2.2.2.1 then
                                     if v10.1.2.2.2.2 = v6.1.2.2.2.2 then
                                      if ((List.length v10.2 : Nat) : Int) = 0 then
                                       (spec_OrderOk k (1, ((Int.tmod (List.getD v1 (Int.toNat 0) 0) 1200), ((Int.tmod (List.getD v1 (Int.toNat 1) 0) 1200), (Int.tmod (List.getD v1 (Int.toNat 2) 0) 6000))))).bind fun v12 =>
                                       if (v12 == (decide (((List.length v6.2 : Nat) : Int) = 1))) = true then
                                        if ((List.length v6.2 : Nat) : Int) = 1 then
                                         if 0 ≤ 0 then
                                          if 0 < ((List.length v6.2 : Nat) : Int) then
                                           if (List.getD v6.2 (Int.toNat 0) (0, (0, (0, 0)))).1 = 1 then
                                            if (List.getD v6.2 (Int.toNat 0) (0, (0, (0, 0)))).2.1 = (Int.tmod (List.getD v1 (Int.toNat 0) 0) 1200) then
                                             if (List.getD v6.2 (Int.toNat 0) (0, (0, (0, 0)))).2.2.1 = (Int.tmod (List.getD v1 (Int.toNat 1) 0) 1200) then
                                              if (List.getD v6.2 (Int.toNat 0) (0, (0, (0, 0)))).2.2.2 = (Int.tmod (List.getD v1 (Int.toNat 2) 0) 6000) then
                                               if 0 ≤ 3 then
                                                if 3 < ((List.length v1 : Nat) : Int) then
                                                 if 200 = 0 then
                                                  none
                                                 else
                                                  if 1 ≤ (Int.tmod (List.getD v1 (Int.toNat 3) 0) 200) then
                                                   if ((decide (((List.length v8.2 : Nat) : Int) = 1)) == (decide ((Int.tmod (List.getD v1 (Int.toNat 3) 0) 200) ≤ 100))) = true then
                                                    if ((List.length v8.2 : Nat) : Int) = 0 then
                                                     some true
                                                    else
                                                     if 0 ≤ 0 then
                                                      if 0 < ((List.length v8.2 : Nat) : Int) then
                                                       if (List.getD v8.2 (Int.toNat 0) (0, (0, (0, 0)))).2.2.2 = (Int.tmod (List.getD v1 (Int.toNat 3) 0) 200) then
                                                        if 0 ≤ 0 then
                                                         if 0 < ((List.length v8.2 : Nat) : Int) then some (decide ((List.getD v8.2 (Int.toNat 0) (0, (0, (0, 0)))).1 = 2)) else none
                                                        else
                                                         none
                                                       else
                                                        some false
                                                      else
                                                       none
                                                     else
                                                      none
                                                   else
                                                    some false
                                                  else
                                                   if ((decide (((List.length v8.2 : Nat) : Int) = 1)) == false) = true then
                                                    if ((List.length v8.2 : Nat) : Int) = 0 then
                                                     some true
                                                    else
                                                     if 0 ≤ 0 then
                                                      if 0 < ((List.length v8.2 : Nat) : Int) then
                                                       if (List.getD v8.2 (Int.toNat 0) (0, (0, (0, 0)))).2.2.2 = (Int.tmod (List.getD v1 (Int.toNat 3) 0) 200) then
                                                        if 0 ≤ 0 then
                                                         if 0 < ((List.length v8.2 : Nat) : Int) then some (decide ((List.getD v8.2 (Int.toNat 0) (0, (0, (0, 0)))).1 = 2)) else none
                                                        else
                                                         none
                                                       else
                                                        some false
                                                      else
                                                       none
                                                     else
                                                      none
                                                   else
                                                    some false
                                                else
                                                 none
                                               else
                                                none
                                              else
                                               some false
                                             else
                                              some false
                                            else
                                             some false
                                           else
                                            some false
                                          else
                                           none
                                         else
                                          none
                                        else
                                         if 0 ≤ 3 then
                                          if 3 < ((List.length v1 : Nat) : Int) then
                                           if 200 = 0 then
                                            none
                                           else
                                            if 1 ≤ (Int.tmod (List.getD v1 (Int.toNat 3) 0) 200) then
                                             if ((decide (((List.length v8.2 : Nat) : Int) = 1)) == (decide ((Int.tmod (List.getD v1 (Int.toNat 3) 0) 200) ≤ 100))) = true then
                                              if ((List.length v8.2 : Nat) : Int) = 0 then
                                               some true
                                              else
                                               if 0 ≤ 0 then
                                                if 0 < ((List.length v8.2 : Nat) : Int) then
                                                 if (List.getD v8.2 (Int.toNat 0) (0, (0, (0, 0)))).2.2.2 = (Int.tmod (List.getD v1 (Int.toNat 3) 0) 200) then
                                                  if 0 ≤ 0 then
                                                   if 0 < ((List.length v8.2 : Nat) : Int) then some (decide ((List.getD v8.2 (Int.toNat 0) (0, (0, (0, 0)))).1 = 2)) else none
                                                  else
                                                   none
                                                 else
                                                  some false
                                                else
                                                 none
                                               else
                                                none
                                             else
                                              some false
                                            else
                                             if ((decide (((List.length v8.2 : Nat) : Int) = 1)) == false) = true then
                                              if ((List.length v8.2 : Nat) : Int) = 0 then
                                               some true
                                              else
                                               if 0 ≤ 0 then
                                                if 0 < ((List.length v8.2 : Nat) : Int) then
                                                 if (List.getD v8.2 (Int.toNat 0) (0, (0, (0, 0)))).2.2.2 = (Int.tmod (List.getD v1 (Int.toNat 3) 0) 200) then
                                                  if 0 ≤ 0 then
                                                   if 0 < ((List.length v8.2 : Nat) : Int) then some (decide ((List.getD v8.2 (Int.toNat 0) (0, (0, (0, 0)))).1 = 2)) else none
                                                  else
                                                   none
                                                 else
                                                  some false
                                                else
                                                 none
                                               else
                                                none
                                             else
                                              some false
                                          else
                                           none
                                         else
                                          none
                                       else
                                        some false
                                      else
                                       some false
                                     else
                                      some false
                                    else
                                     some false
                                   else
                                    some false
                                  else
                                   some false
                                 else
                                  some false
                                else
                                 some false
                               else
                                some false
                              else
                               some false
                             else
                              some false
                            else
                             some false
                           else
                            some false
                          else
                           some false
                         else
                          some false
                        else
                         some false
                       else
                        some false else none
                     else
                      none
                   else
                    none
                  else
                   none else none
                else
                 none else none
              else
               none else none
            else
             none
          else
           none
         else
          none
       else
        none
      else
       none
    else
     none
   else
    none
noncomputable def g_laws_FnTyped : List Int → Option (Bool) := laws_FnTyped_ (fun _ => g_impl_MenuNew) (fun _ => g_impl_PressAll) (fun _ => g_laws_big) (fun _ => g_spec_Decimal) (fun _ => g_spec_DrawPlaces) (fun _ => g_spec_OrderOk) 0
theorem e_laws_FnTyped : ∀ x b, g_laws_FnTyped x = some b → ∃ k, laws_FnTyped_ (fun _ => g_impl_MenuNew) (fun _ => g_impl_PressAll) (fun _ => g_laws_big) (fun _ => g_spec_Decimal) (fun _ => g_spec_DrawPlaces) (fun _ => g_spec_OrderOk) k x = some b := fun x b h => ⟨0, h⟩
end Go.Sx.T
