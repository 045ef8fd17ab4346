/- Functions of the program as functions of Lean, and that the program keeps to them. -/
import Derived.Test.YthimkepabblloaaSxP15
set_option maxRecDepth 100000
set_option linter.unusedVariables false
set_option linter.unusedSimpArgs false
namespace Go.Proofs
end Go.Proofs
namespace Go.Sx.T
open Go Go.Sx Go.Proofs Go.RowKit
/- laws_eqMenu -/
def con_laws_eqMenu (f : Nat → (Int × Bool × Int × Int × ByteArray) × (Int × Bool × Int × Int × ByteArray) → Option (Bool)) : Con := ⟨[.agg [.int .i64, .bool, .int .i64, .int .i64, .str], .agg [.int .i64, .bool, .int .i64, .int .i64, .str]], 1, [.v false [.bool]], f⟩
def laws_eqMenu_ (k : Nat) : (Int × Bool × Int × Int × ByteArray) × (Int × Bool × Int × Int × ByteArray) → Option (Bool)
  | ((a0, a1, a2, a3, a4), (a5, a6, a7, a8, a9)) =>
  if a0 = a5 then
   if (a1 == a6) = true then
    if a2 = a7 then
     if a3 = a8 then
      if a4 = a9 then
       some true
      else
       some false
     else
      some false
    else
     some false
   else
    some false
  else
   some false
noncomputable def g_laws_eqMenu : (Int × Bool × Int × Int × ByteArray) × (Int × Bool × Int × Int × ByteArray) → Option (Bool) := laws_eqMenu_  0
theorem e_laws_eqMenu : ∀ x b, g_laws_eqMenu x = some b → ∃ k, laws_eqMenu_  k x = some b := fun x b h => ⟨0, h⟩
/- impl_MenuNew -/
def con_impl_MenuNew (f : Nat → Unit → Option ((Int × Bool × Int × Int × ByteArray))) : Con := ⟨[], 1, [.v true [.int .i64, .bool, .int .i64, .int .i64, .str]], f⟩
def impl_MenuNew_ (k : Nat) : Unit → Option ((Int × Bool × Int × Int × ByteArray))
  | () =>
  some (1, (false, (0, (0, (⟨#[]⟩ : ByteArray)))))
noncomputable def g_impl_MenuNew : Unit → Option ((Int × Bool × Int × Int × ByteArray)) := impl_MenuNew_  0
theorem e_impl_MenuNew : ∀ x b, g_impl_MenuNew x = some b → ∃ k, impl_MenuNew_  k x = some b := fun x b h => ⟨0, h⟩
/- spec_MenuNew -/
def con_spec_MenuNew (f : Nat → Unit → Option ((Int × Bool × Int × Int × ByteArray))) : Con := ⟨[], 1, [.v true [.int .i64, .bool, .int .i64, .int .i64, .str]], f⟩
def spec_MenuNew_ (k : Nat) : Unit → Option ((Int × Bool × Int × Int × ByteArray))
  | () =>
  some (1, (false, (0, (0, (⟨#[]⟩ : ByteArray)))))
noncomputable def g_spec_MenuNew : Unit → Option ((Int × Bool × Int × Int × ByteArray)) := spec_MenuNew_  0
theorem e_spec_MenuNew : ∀ x b, g_spec_MenuNew x = some b → ∃ k, spec_MenuNew_  k x = some b := fun x b h => ⟨0, h⟩
/- laws_eqOrder -/
def con_laws_eqOrder (f : Nat → (Int × Int × Int × Int) × (Int × Int × Int × Int) → Option (Bool)) : Con := ⟨[.agg [.int .i64, .int .i64, .int .i64, .int .i64], .agg [.int .i64, .int .i64, .int .i64, .int .i64]], 1, [.v false [.bool]], f⟩
def laws_eqOrder_ (k : Nat) : (Int × Int × Int × Int) × (Int × Int × Int × Int) → Option (Bool)
  | ((a0, a1, a2, a3), (a4, a5, a6, a7)) =>
  if a0 = a4 then
   if a1 = a5 then
    if a2 = a6 then
     if a3 = a7 then
      some true
     else
      some false
    else
     some false
   else
    some false
  else
   some false
noncomputable def g_laws_eqOrder : (Int × Int × Int × Int) × (Int × Int × Int × Int) → Option (Bool) := laws_eqOrder_  0
theorem e_laws_eqOrder : ∀ x b, g_laws_eqOrder x = some b → ∃ k, laws_eqOrder_  k x = some b := fun x b h => ⟨0, h⟩
/- impl_within -/
def con_impl_within (f : Nat → Int × Int × Int → Option (Bool)) : Con := ⟨[.c (.int .i64), .c (.int .i64), .c (.int .i64)], 1, [.v false [.bool]], f⟩
def impl_within_ (k : Nat) : Int × Int × Int → Option (Bool)
  | (a0, a1, a2) =>
  if a1 ≤ a0 then
   some (decide (a0 ≤ a2))
  else
   some false
noncomputable def g_impl_within : Int × Int × Int → Option (Bool) := impl_within_  0
theorem e_impl_within : ∀ x b, g_impl_within x = some b → ∃ k, impl_within_  k x = some b := fun x b h => ⟨0, h⟩
/- impl_OrderOk -/
def con_impl_OrderOk (f : Nat → (Int × Int × Int × Int) → Option (Bool)) : Con := ⟨[.agg [.int .i64, .int .i64, .int .i64, .int .i64]], 1, [.v false [.bool]], f⟩
def impl_OrderOk_ (impl_within : Nat → Int × Int × Int → Option (Bool)) (k : Nat) : (Int × Int × Int × Int) → Option (Bool)
  | (a0, a1, a2, a3) =>
  if a0 = 1 then
   (impl_within k (a2, (1, 1000))).bind fun v0 =>
   if v0 = true then
    (impl_within k (a1, (1, (mn 1000 (wrap64 (3 * a2)))))).bind fun v1 =>
    if v1 = true then
     (impl_within k (a3, (1, 5000))).bind fun v2 =>
     some v2
    else
     some false
   else
    some false
  else
   if a0 = 2 then
    if a0 = 2 then
     if a1 = 0 then
      if a2 = 0 then
       if a3 = a3 then
        (impl_within k (a3, (1, 100))).bind fun v3 =>
        some v3
       else
        some false
      else
       some false
     else
      some false
    else
     some false
   else
    (impl_within k (a0, (3, 6))).bind fun v4 =>
    if v4 = true then
     some ((decide (a0 = a0)) && ((decide (a1 = 0)) && ((decide (a2 = 0)) && (decide (a3 = 0)))))
    else
     some false
noncomputable def g_impl_OrderOk : (Int × Int × Int × Int) → Option (Bool) := impl_OrderOk_ (fun _ => g_impl_within) 0
theorem e_impl_OrderOk : ∀ x b, g_impl_OrderOk x = some b → ∃ k, impl_OrderOk_ (fun _ => g_impl_within) k x = some b := fun x b h => ⟨0, h⟩
/- spec_l01In -/
def con_spec_l01In (f : Nat → Int × Int × Int → Option (Bool)) : Con := ⟨[.c (.int .i64), .c (.int .i64), .c (.int .i64)], 1, [.v false [.bool]], f⟩
def spec_l01In_ (k : Nat) : Int × Int × Int → Option (Bool)
  | (a0, a1, a2) =>
  if a1 ≤ a0 then
   some (decide (a0 ≤ a2))
  else
   some false
noncomputable def g_spec_l01In : Int × Int × Int → Option (Bool) := spec_l01In_  0
theorem e_spec_l01In : ∀ x b, g_spec_l01In x = some b → ∃ k, spec_l01In_  k x = some b := fun x b h => ⟨0, h⟩
/- spec_OrderOk -/
def con_spec_OrderOk (f : Nat → (Int × Int × Int × Int) → Option (Bool)) : Con := ⟨[.agg [.int .i64, .int .i64, .int .i64, .int .i64]], 1, [.v false [.bool]], f⟩
def spec_OrderOk_ (spec_l01In : Nat → Int × Int × Int → Option (Bool)) (k : Nat) : (Int × Int × Int × Int) → Option (Bool)
  | (a0, a1, a2, a3) =>
  if a0 = 1 then
   (spec_l01In k (a2, (1, 1000))).bind fun v0 =>
   if v0 = true then
    (spec_l01In k (a1, (1, 1000))).bind fun v1 =>
    if v1 = true then
     if a1 ≤ (wrap64 (3 * a2)) then
      (spec_l01In k (a3, (1, 5000))).bind fun v2 =>
      some v2
     else
      some false
    else
     some false
   else
    some false
  else
   if a0 = 2 then
    (spec_l01In k (a3, (1, 100))).bind fun v3 =>
    if v3 = true then
     if a1 = 0 then
      some (decide (a2 = 0))
     else
      some false
    else
     some false
   else
    (spec_l01In k (a0, (3, 6))).bind fun v4 =>
    if v4 = true then
     if a1 = 0 then
      if a2 = 0 then
       some (decide (a3 = 0))
      else
       some false
     else
      some false
    else
     some false
noncomputable def g_spec_OrderOk : (Int × Int × Int × Int) → Option (Bool) := spec_OrderOk_ (fun _ => g_spec_l01In) 0
theorem e_spec_OrderOk : ∀ x b, g_spec_OrderOk x = some b → ∃ k, spec_OrderOk_ (fun _ => g_spec_l01In) k x = some b := fun x b h => ⟨0, h⟩
/- impl_typed -/
def con_impl_typed (f : Nat → ByteArray → Option (Int)) : Con := ⟨[.c (.str)], 1, [.v false [.int .i64]], f⟩
def impl_typed_L3 : Nat → ByteArray × Int × Int × Int × Unit → Option (Int)
  | 0, _ => none
  | k + 1, (b0, b1, b2, b3, ()) =>
    if b3 < b2 then
     if 0 ≤ b3 then
      if b3 < ((ByteArray.size b0 : Nat) : Int) then impl_typed_L3 k (b0, (wrap64 ((wrap64 (10 * b1)) + (wrap64 (wr .u8 ((byt b0 b3) - 48))))), b2, (wrap64 (b3 + 1)), ()) else none
     else
      none
    else
     some b1
def impl_typed_ (k : Nat) : ByteArray → Option (Int)
  | a0 =>
  impl_typed_L3 k (a0, 0, ((ByteArray.size a0 : Nat) : Int), 0, ())
noncomputable def g_impl_typed : ByteArray → Option (Int) := evG (impl_typed_ )
theorem e_impl_typed : ∀ x b, g_impl_typed x = some b → ∃ k, impl_typed_  k x = some b := evG_e _
/- impl_Menu__enter -/
def con_impl_Menu__enter (f : Nat → (Int × Bool × Int × Int × ByteArray) → Option ((Int × Bool × Int × Int × ByteArray) × (Int × Int × Int × Int) × Bool)) : Con := ⟨[.agg [.int .i64, .bool, .int .i64, .int .i64, .str]], 3, [.v true [.int .i64, .bool, .int .i64, .int .i64, .str], .v true [.int .i64, .int .i64, .int .i64, .int .i64], .v false [.bool]], f⟩
def impl_Menu__enter_ (impl_MenuNew : Nat → Unit → Option ((Int × Bool × Int × Int × ByteArray))) (impl_OrderOk : Nat → (Int × Int × Int × Int) → Option (Bool)) (impl_typed : Nat → ByteArray → Option (Int)) (k : Nat) : (Int × Bool × Int × Int × ByteArray) → Option ((Int × Bool × Int × Int × ByteArray) × (Int × Int × Int × Int) × Bool)
  | (a0, a1, a2, a3, a4) =>
  (impl_typed k a4).bind fun v0 =>
  if a0 = 2 then
   some ((3, (a1, (v0, (a3, (⟨#[]⟩ : ByteArray))))), ((0, (0, (0, 0))), false))
  else
   if a0 = 3 then
    some ((4, (a1, (a2, (v0, (⟨#[]⟩ : ByteArray))))), ((0, (0, (0, 0))), false))
   else
    if a1 = true then
     (impl_OrderOk k (2, (0, (0, v0)))).bind fun v1 =>
     if v1 = true then
      (impl_MenuNew k ()).bind fun v2 =>
      some (v2, ((2, (0, (0, v0))), true))
     else
      (impl_MenuNew k ()).bind fun v3 =>
      some (v3, ((0, (0, (0, 0))), false))
    else
     (impl_OrderOk k (1, (a2, (a3, v0)))).bind fun v4 =>
     if v4 = true then
      (impl_MenuNew k ()).bind fun v5 =>
      some (v5, ((1, (a2, (a3, v0))), true))
     else
      (impl_MenuNew k ()).bind fun v6 =>
      some (v6, ((0, (0, (0, 0))), false))
noncomputable def g_impl_Menu__enter : (Int × Bool × Int × Int × ByteArray) → Option ((Int × Bool × Int × Int × ByteArray) × (Int × Int × Int × Int) × Bool) := impl_Menu__enter_ (fun _ => g_impl_MenuNew) (fun _ => g_impl_OrderOk) (fun _ => g_impl_typed) 0
theorem e_impl_Menu__enter : ∀ x b, g_impl_Menu__enter x = some b → ∃ k, impl_Menu__enter_ (fun _ => g_impl_MenuNew) (fun _ => g_impl_OrderOk) (fun _ => g_impl_typed) k x = some b := fun x b h => ⟨0, h⟩
/- impl_Menu__top -/
def con_impl_Menu__top (f : Nat → (Int × Bool × Int × Int × ByteArray) × Int → Option ((Int × Bool × Int × Int × ByteArray) × (Int × Int × Int × Int) × Bool)) : Con := ⟨[.agg [.int .i64, .bool, .int .i64, .int .i64, .str], .c (.int .i64)], 3, [.v true [.int .i64, .bool, .int .i64, .int .i64, .str], .v true [.int .i64, .int .i64, .int .i64, .int .i64], .v false [.bool]], f⟩
def impl_Menu__top_ (k : Nat) : (Int × Bool × Int × Int × ByteArray) × Int → Option ((Int × Bool × Int × Int × ByteArray) × (Int × Int × Int × Int) × Bool)
  | ((a0, a1, a2, a3, a4), a5) =>
  if a5 = 98 then
   some ((2, (false, (0, (0, (⟨#[]⟩ : ByteArray))))), ((0, (0, (0, 0))), false))
  else
   if a5 = 111 then
    some ((4, (true, (0, (0, (⟨#[]⟩ : ByteArray))))), ((0, (0, (0, 0))), false))
   else
    if a5 = 112 then
     some ((a0, (a1, (a2, (a3, a4)))), ((3, (0, (0, 0))), true))
    else
     if a5 = 103 then
      some ((a0, (a1, (a2, (a3, a4)))), ((4, (0, (0, 0))), true))
     else
      if a5 = 115 then
       some ((a0, (a1, (a2, (a3, a4)))), ((5, (0, (0, 0))), true))
      else
       if a5 = 120 then
        some ((a0, (a1, (a2, (a3, a4)))), ((6, (0, (0, 0))), true))
       else
        some ((a0, (a1, (a2, (a3, a4)))), ((0, (0, (0, 0))), false))
noncomputable def g_impl_Menu__top : (Int × Bool × Int × Int × ByteArray) × Int → Option ((Int × Bool × Int × Int × ByteArray) × (Int × Int × Int × Int) × Bool) := impl_Menu__top_  0
theorem e_impl_Menu__top : ∀ x b, g_impl_Menu__top x = some b → ∃ k, impl_Menu__top_  k x = some b := fun x b h => ⟨0, h⟩
/- impl_MenuOk -/
def con_impl_MenuOk (f : Nat → (Int × Bool × Int × Int × ByteArray) → Option (Bool)) : Con := ⟨[.agg [.int .i64, .bool, .int .i64, .int .i64, .str]], 1, [.v false [.bool]], f⟩
def impl_MenuOk_L2 (impl_MenuNew : Nat → Unit → Option ((Int × Bool × Int × Int × ByteArray))) (impl_within : Nat → Int × Int × Int → Option (Bool)) : Nat → Int × Int × Int × Bool × Int × Int × ByteArray × Unit → Option (Bool)
  | 0, _ => none
  | k + 1, (b0, b1, b2, b3, b4, b5, b6, ()) =>
    if b1 < b0 then
     if 0 ≤ b1 then
      if b1 < ((ByteArray.size b6 : Nat) : Int) then (impl_within k ((wrap64 (byt b6 b1)), (48, 57))).bind fun v0 =>
       if v0 = true then
        impl_MenuOk_L2 impl_MenuNew impl_within k (b0, (wrap64 (b1 + 1)), b2, b3, b4, b5, b6, ())
       else
        some false else none
     else
      none
    else
     if b2 = 1 then
      (impl_MenuNew k ()).bind fun v1 =>
      some ((decide (b2 = v1.1)) && ((b3 == v1.2.1) && ((decide (b4 = v1.2.2.1)) && ((decide (b5 = v1.2.2.2.1)) && (decide (b6 = v1.2.2.2.2))))))
     else
      (impl_within k (b2, (2, 4))).bind fun v2 =>
      if v2 = true then
       (impl_within k (b4, (0, 9999))).bind fun v3 =>
       if v3 = true then
        (impl_within k (b5, (0, 9999))).bind fun v4 =>
        if v4 = true then
         some (decide (((ByteArray.size b6 : Nat) : Int) ≤ 4))
        else
         some false
       else
        some false
      else
       some false
def impl_MenuOk_ (impl_MenuNew : Nat → Unit → Option ((Int × Bool × Int × Int × ByteArray))) (impl_within : Nat → Int × Int × Int → Option (Bool)) (k : Nat) : (Int × Bool × Int × Int × ByteArray) → Option (Bool)
  | (a0, a1, a2, a3, a4) =>
  impl_MenuOk_L2 impl_MenuNew impl_within k (((ByteArray.size a4 : Nat) : Int), 0, a0, a1, a2, a3, a4, ())
noncomputable def g_impl_MenuOk : (Int × Bool × Int × Int × ByteArray) → Option (Bool) := evG (impl_MenuOk_ (fun _ => g_impl_MenuNew) (fun _ => g_impl_within))
theorem e_impl_MenuOk : ∀ x b, g_impl_MenuOk x = some b → ∃ k, impl_MenuOk_ (fun _ => g_impl_MenuNew) (fun _ => g_impl_within) k x = some b := evG_e _
/- impl_Press -/
def con_impl_Press (f : Nat → (Int × Bool × Int × Int × ByteArray) × Int → Option ((Int × Bool × Int × Int × ByteArray) × (Int × Int × Int × Int) × Bool)) : Con := ⟨[.agg [.int .i64, .bool, .int .i64, .int .i64, .str], .c (.int .i64)], 3, [.v true [.int .i64, .bool, .int .i64, .int .i64, .str], .v true [.int .i64, .int .i64, .int .i64, .int .i64], .v false [.bool]], f⟩
def impl_Press_ (impl_MenuNew : Nat → Unit → Option ((Int × Bool × Int × Int × ByteArray))) (impl_MenuOk : Nat → (Int × Bool × Int × Int × ByteArray) → Option (Bool)) (impl_Menu__enter : Nat → (Int × Bool × Int × Int × ByteArray) → Option ((Int × Bool × Int × Int × ByteArray) × (Int × Int × Int × Int) × Bool)) (impl_Menu__top : Nat → (Int × Bool × Int × Int × ByteArray) × Int → Option ((Int × Bool × Int × Int × ByteArray) × (Int × Int × Int × Int) × Bool)) (impl_within : Nat → Int × Int × Int → Option (Bool)) (k : Nat) : (Int × Bool × Int × Int × ByteArray) × Int → Option ((Int × Bool × Int × Int × ByteArray) × (Int × Int × Int × Int) × Bool)
  | ((a0, a1, a2, a3, a4), a5) =>
  (impl_MenuOk k (a0, (a1, (a2, (a3, a4))))).bind fun v0 =>
  if v0 = true then
   if a0 = 1 then
    (impl_Menu__top k ((a0, (a1, (a2, (a3, a4)))), a5)).bind fun v1 =>
    some v1
   else
    if a5 = 10 then
     (impl_Menu__enter k (a0, (a1, (a2, (a3, a4))))).bind fun v2 =>
     some v2
    else
     if a5 = 99 then
      (impl_MenuNew k ()).bind fun v3 =>
      some (v3, ((0, (0, (0, 0))), false))
     else
      (impl_within k (a5, (48, 57))).bind fun v4 =>
      if v4 = true then
       if ((ByteArray.size a4 : Nat) : Int) < 4 then
        if ((ByteArray.size a4 + ByteArray.size (bstr [(wr .u8 a5)]) : Nat) : Int) ≤ 9223372036854775807 then some ((a0, (a1, (a2, (a3, (a4 ++ (bstr [(wr .u8 a5)])))))), ((0, (0, (0, 0))), false)) else none
       else
        some ((a0, (a1, (a2, (a3, a4)))), ((0, (0, (0, 0))), false))
      else
       some ((a0, (a1, (a2, (a3, a4)))), ((0, (0, (0, 0))), false))
  else
   some ((a0, (a1, (a2, (a3, a4)))), ((0, (0, (0, 0))), false))
noncomputable def g_impl_Press : (Int × Bool × Int × Int × ByteArray) × Int → Option ((Int × Bool × Int × Int × ByteArray) × (Int × Int × Int × Int) × Bool) := impl_Press_ (fun _ => g_impl_MenuNew) (fun _ => g_impl_MenuOk) (fun _ => g_impl_Menu__enter) (fun _ => g_impl_Menu__top) (fun _ => g_impl_within) 0
theorem e_impl_Press : ∀ x b, g_impl_Press x = some b → ∃ k, impl_Press_ (fun _ => g_impl_MenuNew) (fun _ => g_impl_MenuOk) (fun _ => g_impl_Menu__enter) (fun _ => g_impl_Menu__top) (fun _ => g_impl_within) k x = some b := fun x b h => ⟨0, h⟩
/- laws_toMenu -/
def con_laws_toMenu (f : Nat → (Int × Bool × Int × Int × ByteArray) → Option ((Int × Bool × Int × Int × ByteArray))) : Con := ⟨[.agg [.int .i64, .bool, .int .i64, .int .i64, .str]], 1, [.v true [.int .i64, .bool, .int .i64, .int .i64, .str]], f⟩
def laws_toMenu_ (k : Nat) : (Int × Bool × Int × Int × ByteArray) → Option ((Int × Bool × Int × Int × ByteArray))
  | (a0, a1, a2, a3, a4) =>
  some (a0, (a1, (a2, (a3, a4))))
noncomputable def g_laws_toMenu : (Int × Bool × Int × Int × ByteArray) → Option ((Int × Bool × Int × Int × ByteArray)) := laws_toMenu_  0
theorem e_laws_toMenu : ∀ x b, g_laws_toMenu x = some b → ∃ k, laws_toMenu_  k x = some b := fun x b h => ⟨0, h⟩
/- spec_l17Number -/
def con_spec_l17Number (f : Nat → ByteArray → Option (Int)) : Con := ⟨[.c (.str)], 1, [.v false [.int .i64]], f⟩
def spec_l17Number_L3 : Nat → ByteArray × Int × Int × Unit → Option (Int)
  | 0, _ => none
  | k + 1, (b0, b1, b2, ()) =>
    if b2 < ((ByteArray.size b0 : Nat) : Int) then
     if 0 ≤ b2 then
      if b2 < ((ByteArray.size b0 : Nat) : Int) then spec_l17Number_L3 k (b0, (wrap64 ((wrap64 (10 * b1)) + (wrap64 (wr .u8 ((byt b0 b2) - 48))))), (wrap64 (b2 + 1)), ()) else none
     else
      none
    else
     some b1
def spec_l17Number_ (k : Nat) : ByteArray → Option (Int)
  | a0 =>
  spec_l17Number_L3 k (a0, 0, 0, ())
noncomputable def g_spec_l17Number : ByteArray → Option (Int) := evG (spec_l17Number_ )
theorem e_spec_l17Number : ∀ x b, g_spec_l17Number x = some b → ∃ k, spec_l17Number_  k x = some b := evG_e _
/- spec_l17Top -/
def con_spec_l17Top (f : Nat → (Int × Bool × Int × Int × ByteArray) × Int → Option ((Int × Bool × Int × Int × ByteArray) × (Int × Int × Int × Int) × Bool)) : Con := ⟨[.agg [.int .i64, .bool, .int .i64, .int .i64, .str], .c (.int .i64)], 3, [.v true [.int .i64, .bool, .int .i64, .int .i64, .str], .v true [.int .i64, .int .i64, .int .i64, .int .i64], .v false [.bool]], f⟩
def spec_l17Top_ (k : Nat) : (Int × Bool × Int × Int × ByteArray) × Int → Option ((Int × Bool × Int × Int × ByteArray) × (Int × Int × Int × Int) × Bool)
  | ((a0, a1, a2, a3, a4), a5) =>
  if a5 = 98 then
   some ((2, (false, (0, (0, (⟨#[]⟩ : ByteArray))))), ((0, (0, (0, 0))), false))
  else
   if a5 = 111 then
    some ((4, (true, (0, (0, (⟨#[]⟩ : ByteArray))))), ((0, (0, (0, 0))), false))
   else
    if a5 = 112 then
     some ((a0, (a1, (a2, (a3, a4)))), ((3, (0, (0, 0))), true))
    else
     if a5 = 103 then
      some ((a0, (a1, (a2, (a3, a4)))), ((4, (0, (0, 0))), true))
     else
      if a5 = 115 then
       some ((a0, (a1, (a2, (a3, a4)))), ((5, (0, (0, 0))), true))
      else
       if a5 = 120 then
        some ((a0, (a1, (a2, (a3, a4)))), ((6, (0, (0, 0))), true))
       else
        some ((a0, (a1, (a2, (a3, a4)))), ((0, (0, (0, 0))), false))
noncomputable def g_spec_l17Top : (Int × Bool × Int × Int × ByteArray) × Int → Option ((Int × Bool × Int × Int × ByteArray) × (Int × Int × Int × Int) × Bool) := spec_l17Top_  0
theorem e_spec_l17Top : ∀ x b, g_spec_l17Top x = some b → ∃ k, spec_l17Top_  k x = some b := fun x b h => ⟨0, h⟩
/- spec_MenuOk -/
def con_spec_MenuOk (f : Nat → (Int × Bool × Int × Int × ByteArray) → Option (Bool)) : Con := ⟨[.agg [.int .i64, .bool, .int .i64, .int .i64, .str]], 1, [.v false [.bool]], f⟩
def spec_MenuOk_L4 (spec_l01In : Nat → Int × Int × Int → Option (Bool)) : Nat → Int × Int × Bool × Int × Int × ByteArray × Unit → Option (Bool)
  | 0, _ => none
  | k + 1, (b0, b1, b2, b3, b4, b5, ()) =>
    if b0 < ((ByteArray.size b5 : Nat) : Int) then
     if 0 ≤ b0 then
      if b0 < ((ByteArray.size b5 : Nat) : Int) then
       if (byt b5 b0) < 48 then
        some false
       else
        if 0 ≤ b0 then
         if b0 < ((ByteArray.size b5 : Nat) : Int) then
          if 57 < (byt b5 b0) then
           some false
          else
           spec_MenuOk_L4 spec_l01In k ((wrap64 (b0 + 1)), b1, b2, b3, b4, b5, ())
         else
          none
        else
         none
      else
       none
     else
      none
    else
     if b1 = 1 then
      if b5 = (⟨#[]⟩ : ByteArray) then
       if b2 = true then
        some false
       else
        if b3 = 0 then
         some (decide (b4 = 0))
        else
         some false
      else
       some false
     else
      some true
def spec_MenuOk_ (spec_l01In : Nat → Int × Int × Int → Option (Bool)) (k : Nat) : (Int × Bool × Int × Int × ByteArray) → Option (Bool)
  | (a0, a1, a2, a3, a4) =>
  (spec_l01In k (a0, (1, 4))).bind fun v0 =>
  if v0 = true then
   (spec_l01In k (a2, (0, 9999))).bind fun v1 =>
   if v1 = true then
    (spec_l01In k (a3, (0, 9999))).bind fun v2 =>
    if v2 = true then
     if 4 < ((ByteArray.size a4 : Nat) : Int) then
      some false
     else
      spec_MenuOk_L4 spec_l01In k (0, a0, a1, a2, a3, a4, ())
    else
     some false
   else
    some false
  else
   some false
noncomputable def g_spec_MenuOk : (Int × Bool × Int × Int × ByteArray) → Option (Bool) := evG (spec_MenuOk_ (fun _ => g_spec_l01In))
theorem e_spec_MenuOk : ∀ x b, g_spec_MenuOk x = some b → ∃ k, spec_MenuOk_ (fun _ => g_spec_l01In) k x = some b := evG_e _
/- spec_Press -/
def con_spec_Press (f : Nat → (Int × Bool × Int × Int × ByteArray) × Int → Option ((Int × Bool × Int × Int × ByteArray) × (Int × Int × Int × Int) × Bool)) : Con := ⟨[.agg [.int .i64, .bool, .int .i64, .int .i64, .str], .c (.int .i64)], 3, [.v true [.int .i64, .bool, .int .i64, .int .i64, .str], .v true [.int .i64, .int .i64, .int .i64, .int .i64], .v false [.bool]], f⟩
def spec_Press_ (spec_MenuNew : Nat → Unit → Option ((Int × Bool × Int × Int × ByteArray))) (spec_MenuOk : Nat → (Int × Bool × Int × Int × ByteArray) → Option (Bool)) (spec_OrderOk : Nat → (Int × Int × Int × Int) → Option (Bool)) (spec_l17Number : Nat → ByteArray → Option (Int)) (spec_l17Top : Nat → (Int × Bool × Int × Int × ByteArray) × Int → Option ((Int × Bool × Int × Int × ByteArray) × (Int × Int × Int × Int) × Bool)) (k : Nat) : (Int × Bool × Int × Int × ByteArray) × Int → Option ((Int × Bool × Int × Int × ByteArray) × (Int × Int × Int × Int) × Bool)
  | ((a0, a1, a2, a3, a4), a5) =>
  (spec_MenuOk k (a0, (a1, (a2, (a3, a4))))).bind fun v0 =>
  if v0 = true then
   if a0 = 1 then
    (spec_l17Top k ((a0, (a1, (a2, (a3, a4)))), a5)).bind fun v1 =>
    some v1
   else
    if 48 ≤ a5 then
     if a5 ≤ 57 then
      if ((ByteArray.size a4 : Nat) : Int) < 4 then
       if ((ByteArray.size a4 + ByteArray.size (bstr [(wr .u8 a5)]) : Nat) : Int) ≤ 9223372036854775807 then some ((a0, (a1, (a2, (a3, (a4 ++ (bstr [(wr .u8 a5)])))))), ((0, (0, (0, 0))), false)) else none
      else
       some ((a0, (a1, (a2, (a3, a4)))), ((0, (0, (0, 0))), false))
     else
      if a5 = 99 then
       (spec_MenuNew k ()).bind fun v2 =>
       some (v2, ((0, (0, (0, 0))), false))
      else
       if a5 = 10 then
        (spec_l17Number k a4).bind fun v3 =>
        if a0 = 2 then
         some ((3, (a1, (v3, (a3, (⟨#[]⟩ : ByteArray))))), ((0, (0, (0, 0))), false))
        else
         if a0 = 3 then
          some ((4, (a1, (a2, (v3, (⟨#[]⟩ : ByteArray))))), ((0, (0, (0, 0))), false))
         else
          if a1 = true then
           (spec_OrderOk k (2, (0, (0, v3)))).bind fun v4 =>
           if v4 = true then
            (spec_MenuNew k ()).bind fun v5 =>
            some (v5, ((2, (0, (0, v3))), true))
           else
            (spec_MenuNew k ()).bind fun v6 =>
            some (v6, ((0, (0, (0, 0))), false))
          else
           (spec_OrderOk k (1, (a2, (a3, v3)))).bind fun v7 =>
           if v7 = true then
            (spec_MenuNew k ()).bind fun v8 =>
            some (v8, ((1, (a2, (a3, v3))), true))
           else
            (spec_MenuNew k ()).bind fun v9 =>
            some (v9, ((0, (0, (0, 0))), false))
       else
        some ((a0, (a1, (a2, (a3, a4)))), ((0, (0, (0, 0))), false))
    else
     if a5 = 99 then
      (spec_MenuNew k ()).bind fun v10 =>
      some (v10, ((0, (0, (0, 0))), false))
     else
      if a5 = 10 then
       (spec_l17Number k a4).bind fun v11 =>
       if a0 = 2 then
        some ((3, (a1, (v11, (a3, (⟨#[]⟩ : ByteArray))))), ((0, (0, (0, 0))), false))
       else
        if a0 = 3 then
         some ((4, (a1, (a2, (v11, (⟨#[]⟩ : ByteArray))))), ((0, (0, (0, 0))), false))
        else
         if a1 = true then
          (spec_OrderOk k (2, (0, (0, v11)))).bind fun v12 =>
          if v12 = true then
           (spec_MenuNew k ()).bind fun v13 =>
           some (v13, ((2, (0, (0, v11))), true))
          else
           (spec_MenuNew k ()).bind fun v14 =>
           some (v14, ((0, (0, (0, 0))), false))
         else
          (spec_OrderOk k (1, (a2, (a3, v11)))).bind fun v15 =>
          if v15 = true then
           (spec_MenuNew k ()).bind fun v16 =>
           some (v16, ((1, (a2, (a3, v11))), true))
          else
           (spec_MenuNew k ()).bind fun v17 =>
           some (v17, ((0, (0, (0, 0))), false))
      else
       some ((a0, (a1, (a2, (a3, a4)))), ((0, (0, (0, 0))), false))
  else
   some ((a0, (a1, (a2, (a3, a4)))), ((0, (0, (0, 0))), false))
noncomputable def g_spec_Press : (Int × Bool × Int × Int × ByteArray) × Int → Option ((Int × Bool × Int × Int × ByteArray) × (Int × Int × Int × Int) × Bool) := spec_Press_ (fun _ => g_spec_MenuNew) (fun _ => g_spec_MenuOk) (fun _ => g_spec_OrderOk) (fun _ => g_spec_l17Number) (fun _ => g_spec_l17Top) 0
theorem e_spec_Press : ∀ x b, g_spec_Press x = some b → ∃ k, spec_Press_ (fun _ => g_spec_MenuNew) (fun _ => g_spec_MenuOk) (fun _ => g_spec_OrderOk) (fun _ => g_spec_l17Number) (fun _ => g_spec_l17Top) k x = some b := fun x b h => ⟨0, h⟩
/- laws_szMenu -/
def con_laws_szMenu (f : Nat → (Int × Bool × Int × Int × ByteArray) × Int → Option (Int)) : Con := ⟨[.agg [.int .i64, .bool, .int .i64, .int .i64, .str], .c (.int .i64)], 1, [.v false [.int .i64]], f⟩
def laws_szMenu_ (k : Nat) : (Int × Bool × Int × Int × ByteArray) × Int → Option (Int)
  | ((a0, a1, a2, a3, a4), a5) =>
  if (wrap64 (a5 - ((ByteArray.size a4 : Nat) : Int))) < 0 then
   some (-1)
  else
   some (wrap64 (a5 - ((ByteArray.size a4 : Nat) : Int)))
noncomputable def g_laws_szMenu : (Int × Bool × Int × Int × ByteArray) × Int → Option (Int) := laws_szMenu_  0
theorem e_laws_szMenu : ∀ x b, g_laws_szMenu x = some b → ∃ k, laws_szMenu_  k x = some b := fun x b h => ⟨0, h⟩
/- impl_PressAll -/
def con_impl_PressAll (f : Nat → (Int × Bool × Int × Int × ByteArray) × ByteArray → Option ((Int × Bool × Int × Int × ByteArray) × ((List (Int × (Int × (Int × Int))))))) : Con := ⟨[.agg [.int .i64, .bool, .int .i64, .int .i64, .str], .c (.str)], 2, [.v true [.int .i64, .bool, .int .i64, .int .i64, .str], .v false [.own (.pair (.int .i64) (.pair (.int .i64) (.pair (.int .i64) (.int .i64)))) 39]], f⟩
def impl_PressAll_L3 (impl_Press : Nat → (Int × Bool × Int × Int × ByteArray) × Int → Option ((Int × Bool × Int × Int × ByteArray) × (Int × Int × Int × Int) × Bool)) : Nat → ByteArray × Int × Int × Int × Bool × Int × Int × ByteArray × Int × Bool × Int × Int × ByteArray × (List (Int × (Int × (Int × Int)))) × Unit → Option ((Int × Bool × Int × Int × ByteArray) × ((List (Int × (Int × (Int × Int))))))
  | 0, _ => none
  | k + 1, (b0, b1, b2, b3, b4, b5, b6, b7, b8, b9, b10, b11, b12, b13, ()) =>
    if b2 < b1 then
     if 0 ≤ b2 then
      if b2 < ((ByteArray.size b0 : Nat) : Int) then (impl_Press k ((b3, (b4, (b5, (b6, b7)))), (wrap64 (byt b0 b2)))).bind fun v0 =>
       if v0.2.2 = true then
        if (((List.length b13 + List.length [v0.2.1] : Nat) : Int) * ((32 : Nat) : Int)) ≤ 140737488355328 then impl_PressAll_L3 impl_Press k (b0, b1, (wrap64 (b2 + 1)), v0.1.1, v0.1.2.1, v0.1.2.2.1, v0.1.2.2.2.1, v0.1.2.2.2.2, b8, b9, b10, b11, b12, (b13 ++ [v0.2.1]), ()) else none
       else
        impl_PressAll_L3 impl_Press k (b0, b1, (wrap64 (b2 + 1)), v0.1.1, v0.1.2.1, v0.1.2.2.1, v0.1.2.2.2.1, v0.1.2.2.2.2, b8, b9, b10, b11, b12, b13, ()) else none
     else
      none
    else
     some ((b3, (b4, (b5, (b6, b7)))), b13)
def impl_PressAll_ (impl_Press : Nat → (Int × Bool × Int × Int × ByteArray) × Int → Option ((Int × Bool × Int × Int × ByteArray) × (Int × Int × Int × Int) × Bool)) (k : Nat) : (Int × Bool × Int × Int × ByteArray) × ByteArray → Option ((Int × Bool × Int × Int × ByteArray) × ((List (Int × (Int × (Int × Int))))))
  | ((a0, a1, a2, a3, a4), a5) =>
  impl_PressAll_L3 impl_Press k (a5, ((ByteArray.size a5 : Nat) : Int), 0, a0, a1, a2, a3, a4, 0, false, 0, 0, (⟨#[]⟩ : ByteArray), ([] : List (Int × (Int × (Int × Int)))), ())
noncomputable def g_impl_PressAll : (Int × Bool × Int × Int × ByteArray) × ByteArray → Option ((Int × Bool × Int × Int × ByteArray) × ((List (Int × (Int × (Int × Int)))))) := evG (impl_PressAll_ (fun _ => g_impl_Press))
theorem e_impl_PressAll : ∀ x b, g_impl_PressAll x = some b → ∃ k, impl_PressAll_ (fun _ => g_impl_Press) k x = some b := evG_e _
/- spec_PressAll -/
def con_spec_PressAll (f : Nat → (Int × Bool × Int × Int × ByteArray) × ByteArray → Option ((Int × Bool × Int × Int × ByteArray) × ((List (Int × (Int × (Int × Int))))))) : Con := ⟨[.agg [.int .i64, .bool, .int .i64, .int .i64, .str], .c (.str)], 2, [.v true [.int .i64, .bool, .int .i64, .int .i64, .str], .v false [.own (.pair (.int .i64) (.pair (.int .i64) (.pair (.int .i64) (.int .i64)))) 39]], f⟩
def spec_PressAll_L3 (spec_Press : Nat → (Int × Bool × Int × Int × ByteArray) × Int → Option ((Int × Bool × Int × Int × ByteArray) × (Int × Int × Int × Int) × Bool)) : Nat → ByteArray × Int × Int × Bool × Int × Int × ByteArray × Int × Bool × Int × Int × ByteArray × (List (Int × (Int × (Int × Int)))) × Unit → Option ((Int × Bool × Int × Int × ByteArray) × ((List (Int × (Int × (Int × Int))))))
  | 0, _ => none
  | k + 1, (b0, b1, b2, b3, b4, b5, b6, b7, b8, b9, b10, b11, b12, ()) =>
    if b1 < ((ByteArray.size b0 : Nat) : Int) then
     if 0 ≤ b1 then
      if b1 < ((ByteArray.size b0 : Nat) : Int) then (spec_Press k ((b2, (b3, (b4, (b5, b6)))), (wrap64 (byt b0 b1)))).bind fun v0 =>
       if v0.2.2 = true then
        if (((List.length b12 + List.length [v0.2.1] : Nat) : Int) * ((32 : Nat) : Int)) ≤ 140737488355328 then spec_PressAll_L3 spec_Press k (b0, (wrap64 (b1 + 1)), v0.1.1, v0.1.2.1, v0.1.2.2.1, v0.1.2.2.2.1, v0.1.2.2.2.2, b7, b8, b9, b10, b11, (b12 ++ [v0.2.1]), ()) else none
       else
        spec_PressAll_L3 spec_Press k (b0, (wrap64 (b1 + 1)), v0.1.1, v0.1.2.1, v0.1.2.2.1, v0.1.2.2.2.1, v0.1.2.2.2.2, b7, b8, b9, b10, b11, b12, ()) else none
     else
      none
    else
     some ((b2, (b3, (b4, (b5, b6)))), b12)
def spec_PressAll_ (spec_Press : Nat → (Int × Bool × Int × Int × ByteArray) × Int → Option ((Int × Bool × Int × Int × ByteArray) × (Int × Int × Int × Int) × Bool)) (k : Nat) : (Int × Bool × Int × Int × ByteArray) × ByteArray → Option ((Int × Bool × Int × Int × ByteArray) × ((List (Int × (Int × (Int × Int))))))
  | ((a0, a1, a2, a3, a4), a5) =>
  spec_PressAll_L3 spec_Press k (a5, 0, a0, a1, a2, a3, a4, 0, false, 0, 0, (⟨#[]⟩ : ByteArray), ([] : List (Int × (Int × (Int × Int)))), ())
noncomputable def g_spec_PressAll : (Int × Bool × Int × Int × ByteArray) × ByteArray → Option ((Int × Bool × Int × Int × ByteArray) × ((List (Int × (Int × (Int × Int)))))) := evG (spec_PressAll_ (fun _ => g_spec_Press))
theorem e_spec_PressAll : ∀ x b, g_spec_PressAll x = some b → ∃ k, spec_PressAll_ (fun _ => g_spec_Press) k x = some b := evG_e _
/- laws_heldOrderS -/
def con_laws_heldOrderS (f : Nat → ((List (Int × (Int × (Int × Int))))) × Int → Option (Int)) : Con := ⟨[.c (.sl (.pair (.int .i64) (.pair (.int .i64) (.pair (.int .i64) (.int .i64))))), .c (.int .i64)], 1, [.v false [.int .i64]], f⟩
def laws_heldOrderS_L2 : Nat → Int × Int × (List (Int × (Int × (Int × Int)))) × Unit → Option (Int)
  | 0, _ => none
  | k + 1, (b0, b1, b2, ()) =>
    if b1 < ((List.length b2 : Nat) : Int) then
     if 0 ≤ b1 then
      if b1 < ((List.length b2 : Nat) : Int) then
       if (List.getD b2 (Int.toNat b1) (0, (0, (0, 0)))).1 = b0 then
        if 0 ≤ b1 then
         if b1 < ((List.length b2 : Nat) : Int) then
          if (List.getD b2 (Int.toNat b1) (0, (0, (0, 0)))).2.1 = (wrap64 (b0 + 1)) then
           if 0 ≤ b1 then
            if b1 < ((List.length b2 : Nat) : Int) then
             if (List.getD b2 (Int.toNat b1) (0, (0, (0, 0)))).2.2.1 = (wrap64 ((wrap64 (b0 + 1)) + 1)) then
              if 0 ≤ b1 then
               if b1 < ((List.length b2 : Nat) : Int) then
                if (List.getD b2 (Int.toNat b1) (0, (0, (0, 0)))).2.2.2 = (wrap64 ((wrap64 ((wrap64 (b0 + 1)) + 1)) + 1)) then
                 laws_heldOrderS_L2 k ((wrap64 ((wrap64 ((wrap64 ((wrap64 (b0 + 1)) + 1)) + 1)) + 1)), (wrap64 (b1 + 1)), b2, ())
                else
                 some (-1)
               else
                none
              else
               none
             else
              some (-1)
            else
             none
           else
            none
          else
           some (-1)
         else
          none
        else
         none
       else
        some (-1)
      else
       none
     else
      none
    else
     some b0
def laws_heldOrderS_ (k : Nat) : ((List (Int × (Int × (Int × Int))))) × Int → Option (Int)
  | (a0, a1) =>
  laws_heldOrderS_L2 k (a1, 0, a0, ())
noncomputable def g_laws_heldOrderS : ((List (Int × (Int × (Int × Int))))) × Int → Option (Int) := evG (laws_heldOrderS_ )
theorem e_laws_heldOrderS : ∀ x b, g_laws_heldOrderS x = some b → ∃ k, laws_heldOrderS_  k x = some b := evG_e _
/- laws_eqOrderS -/
def con_laws_eqOrderS (f : Nat → ((List (Int × (Int × (Int × Int))))) × ((List (Int × (Int × (Int × Int))))) → Option (Bool)) : Con := ⟨[.c (.sl (.pair (.int .i64) (.pair (.int .i64) (.pair (.int .i64) (.int .i64))))), .c (.sl (.pair (.int .i64) (.pair (.int .i64) (.pair (.int .i64) (.int .i64)))))], 1, [.v false [.bool]], f⟩
def laws_eqOrderS_L4 (laws_eqOrder : Nat → (Int × Int × Int × Int) × (Int × Int × Int × Int) → Option (Bool)) : Nat → Int × (List (Int × (Int × (Int × Int)))) × (List (Int × (Int × (Int × Int)))) × Unit → Option (Bool)
  | 0, _ => none
  | k + 1, (b0, b1, b2, ()) =>
    if b0 < ((List.length b1 : Nat) : Int) then
     if 0 ≤ b0 then
      if b0 < ((List.length b1 : Nat) : Int) then
       if 0 ≤ b0 then
        if b0 < ((List.length b2 : Nat) : Int) then (laws_eqOrder k ((List.getD b1 (Int.toNat b0) (0, (0, (0, 0)))), (List.getD b2 (Int.toNat b0) (0, (0, (0, 0)))))).bind fun v0 =>
         if v0 = true then
          laws_eqOrderS_L4 laws_eqOrder k ((wrap64 (b0 + 1)), b1, b2, ())
         else
          some false else none
       else
        none
      else
       none
     else
      none
    else
     some true
def laws_eqOrderS_ (laws_eqOrder : Nat → (Int × Int × Int × Int) × (Int × Int × Int × Int) → Option (Bool)) (k : Nat) : ((List (Int × (Int × (Int × Int))))) × ((List (Int × (Int × (Int × Int))))) → Option (Bool)
  | (a0, a1) =>
  if ((List.length a0 : Nat) : Int) = ((List.length a1 : Nat) : Int) then
   laws_eqOrderS_L4 laws_eqOrder k (0, a0, a1, ())
  else
   some false
noncomputable def g_laws_eqOrderS : ((List (Int × (Int × (Int × Int))))) × ((List (Int × (Int × (Int × Int))))) → Option (Bool) := evG (laws_eqOrderS_ (fun _ => g_laws_eqOrder))
theorem e_laws_eqOrderS : ∀ x b, g_laws_eqOrderS x = some b → ∃ k, laws_eqOrderS_ (fun _ => g_laws_eqOrder) k x = some b := evG_e _
/- laws_markOrderS -/
def con_laws_markOrderS (f : Nat → ((List (Int × (Int × (Int × Int))))) × Int → Option (Int × (List (Int × (Int × (Int × Int)))))) : Con := ⟨[.w false [.row (.pair (.int .i64) (.pair (.int .i64) (.pair (.int .i64) (.int .i64)))) 39], .c (.int .i64)], 1, [.v false [.int .i64], .row (.pair (.int .i64) (.pair (.int .i64) (.pair (.int .i64) (.int .i64)))) 39], f⟩
def laws_markOrderS_L2 : Nat → Int × Int × (List (Int × (Int × (Int × Int)))) × Unit → Option (Int × (List (Int × (Int × (Int × Int)))))
  | 0, _ => none
  | k + 1, (b0, b1, b2, ()) =>
    if b1 < ((List.length b2 : Nat) : Int) then
     if 0 ≤ b1 then
      if b1 < ((List.length b2 : Nat) : Int) then
       if 0 ≤ b1 then
        if b1 < ((List.length (List.set b2 (Int.toNat b1) (b0, (List.getD b2 (Int.toNat b1) (0, (0, (0, 0)))).2)) : Nat) : Int) then
         if 0 ≤ b1 then
          if b1 < ((List.length (List.set (List.set b2 (Int.toNat b1) (b0, (List.getD b2 (Int.toNat b1) (0, (0, (0, 0)))).2)) (Int.toNat b1) ((List.getD (List.set b2 (Int.toNat b1) (b0, (List.getD b2 (Int.toNat b1) (0, (0, (0, 0)))).2)) (Int.toNat b1) (0, (0, (0, 0)))).1, ((wrap64 (b0 + 1)), (List.getD (List.set b2 (Int.toNat b1) (b0, (List.getD b2 (Int.toNat b1) (0, (0, (0, 0)))).2)) (Int.toNat b1) (0, (0, (0, 0)))).2.2))) : Nat) : Int) then
           if 0 ≤ b1 then
            if b1 < ((List.length (List.set (List.set (List.set b2 (Int.toNat b1) (b0, (List.getD b2 (Int.toNat b1) (0, (0, (0, 0)))).2)) (Int.toNat b1) ((List.getD (List.set b2 (Int.toNat b1) (b0, (List.getD b2 (Int.toNat b1) (0, (0, (0, 0)))).2)) (Int.toNat b1) (0, (0, (0, 0)))).1, ((wrap64 (b0 + 1)), (List.getD (List.set b2 (Int.toNat b1) (b0, (List.getD b2 (Int.toNat b1) (0, (0, (0, 0)))).2)) (Int.toNat b1) (0, (0, (0, 0)))).2.2))) (Int.toNat b1) ((List.getD (List.set (List.set b2 (Int.toNat b1) (b0, (List.getD b2 (Int.toNat b1) (0, (0, (0, 0)))).2)) (Int.toNat b1) ((List.getD (List.set b2 (Int.toNat b1) (b0, (List.getD b2 (Int.toNat b1) (0, (0, (0, 0)))).2)) (Int.toNat b1) (0, (0, (0, 0)))).1, ((wrap64 (b0 + 1)), (List.getD (List.set b2 (Int.toNat b1) (b0, (List.getD b2 (Int.toNat b1) (0, (0, (0, 0)))).2)) (Int.toNat b1) (0, (0, (0, 0)))).2.2))) (Int.toNat b1) (0, (0, (0, 0)))).1, ((List.getD (List.set (List.set b2 (Int.toNat b1) (b0, (List.getD b2 (Int.toNat b1) (0, (0, (0, 0)))).2)) (Int.toNat b1) ((List.getD (List.set b2 (Int.toNat b1) (b0, (List.getD b2 (Int.toNat b1) (0, (0, (0, 0)))).2)) (Int.toNat b1) (0, (0, (0, 0)))).1, ((wrap64 (b0 + 1)), (List.getD (List.set b2 (Int.toNat b1) (b0, (List.getD b2 (Int.toNat b1) (0, (0, (0, 0)))).2)) (Int.toNat b1) (0, (0, (0, 0)))).2.2))) (Int.toNat b1) (0, (0, (0, 0)))).2.1, ((wrap64 ((wrap64 (b0 + 1)) + 1)), (List.getD (List.set (List.set b2 (Int.toNat b1) (b0, (List.getD b2 (Int.toNat b1) (0, (0, (0, 0)))).2)) (Int.toNat b1) ((List.getD (List.set b2 (Int.toNat b1) (b0, (List.getD b2 (Int.toNat b1) (0, (0, (0, 0)))).2)) (Int.toNat b1) (0, (0, (0, 0)))).1, ((wrap64 (b0 + 1)), (List.getD (List.set b2 (Int.toNat b1) (b0, (List.getD b2 (Int.toNat b1) (0, (0, (0, 0)))).2)) (Int.toNat b1) (0, (0, (0, 0)))).2.2))) (Int.toNat b1) (0, (0, (0, 0)))).2.2.2)))) : Nat) : Int) then laws_markOrderS_L2 k ((wrap64 ((wrap64 ((wrap64 ((wrap64 (b0 + 1)) + 1)) + 1)) + 1)), (wrap64 (b1 + 1)), (List.set (List.set (List.set (List.set b2 (Int.toNat b1) (b0, (List.getD b2 (Int.toNat b1) (0, (0, (0, 0)))).2)) (Int.toNat b1) ((List.getD (List.set b2 (Int.toNat b1) (b0, (List.getD b2 (Int.toNat b1) (0, (0, (0, 0)))).2)) (Int.toNat b1) (0, (0, (0, 0)))).1, ((wrap64 (b0 + 1)), (List.getD (List.set b2 (Int.toNat b1) (b0, (List.getD b2 (Int.toNat b1) (0, (0, (0, 0)))).2)) (Int.toNat b1) (0, (0, (0, 0)))).2.2))) (Int.toNat b1) ((List.getD (List.set (List.set b2 (Int.toNat b1) (b0, (List.getD b2 (Int.toNat b1) (0, (0, (0, 0)))).2)) (Int.toNat b1) ((List.getD (List.set b2 (Int.toNat b1) (b0, (List.getD b2 (Int.toNat b1) (0, (0, (0, 0)))).2)) (Int.toNat b1) (0, (0, (0, 0)))).1, ((wrap64 (b0 + 1)), (List.getD (List.set b2 (Int.toNat b1) (b0, (List.getD b2 (Int.toNat b1) (0, (0, (0, 0)))).2)) (Int.toNat b1) (0, (0, (0, 0)))).2.2))) (Int.toNat b1) (0, (0, (0, 0)))).1, ((List.getD (List.set (List.set b2 (Int.toNat b1) (b0, (List.getD b2 (Int.toNat b1) (0, (0, (0, 0)))).2)) (Int.toNat b1) ((List.getD (List.set b2 (Int.toNat b1) (b0, (List.getD b2 (Int.toNat b1) (0, (0, (0, 0)))).2)) (Int.toNat b1) (0, (0, (0, 0)))).1, ((wrap64 (b0 + 1)), (List.getD (List.set b2 (Int.toNat b1) (b0, (List.getD b2 (Int.toNat b1) (0, (0, (0, 0)))).2)) (Int.toNat b1) (0, (0, (0, 0)))).2.2))) (Int.toNat b1) (0, (0, (0, 0)))).2.1, ((wrap64 ((wrap64 (b0 + 1)) + 1)), (List.getD (List.set (List.set b2 (Int.toNat b1) (b0, (List.getD b2 (Int.toNat b1) (0, (0, (0, 0)))).2)) (Int.toNat b1) ((List.getD (List.set b2 (Int.toNat b1) (b0, (List.getD b2 (Int.toNat b1) (0, (0, (0, 0)))).2)) (Int.toNat b1) (0, (0, (0, 0)))).1, ((wrap64 (b0 + 1)), (List.getD (List.set b2 (Int.toNat b1) (b0, (List.getD b2 (Int.toNat b1) (0, (0, (0, 0)))).2)) (Int.toNat b1) (0, (0, (0, 0)))).2.2))) (Int.toNat b1) (0, (0, (0, 0)))).2.2.2)))) (Int.toNat b1) ((List.getD (List.set (List.set (List.set b2 (Int.toNat b1) (b0, (List.getD b2 (Int.toNat b1) (0, (0, (0, 0)))).2)) (Int.toNat b1) ((List.getD (List.set b2 (Int.toNat b1) (b0, (List.getD b2 (Int.toNat b1) (0, (0, (0, 0)))).2)) (Int.toNat b1) (0, (0, (0, 0)))).1, ((wrap64 (b0 + 1)), (List.getD (List.set b2 (Int.toNat b1) (b0, (List.getD b2 (Int.toNat b1) (0, (0, (0, 0)))).2)) (Int.toNat b1) (0, (0, (0, 0)))).2.2))) (Int.toNat b1) ((List.getD (List.set (List.set b2 (Int.toNat b1) (b0, (List.getD b2 (Int.toNat b1) (0, (0, (0, 0)))).2)) (Int.toNat b1) ((List.getD (List.set b2 (Int.toNat b1) (b0, (List.getD b2 (Int.toNat b1) (0, (0, (0, 0)))).2)) (Int.toNat b1) (0, (0, (0, 0)))).1, ((wrap64 (b0 + 1)), (List.getD (List.set b2 (Int.toNat b1) (b0, (List.getD b2 (Int.toNat b1) (0, (0, (0, 0)))).2)) (Int.toNat b1) (0, (0, (0, 0)))).2.2))) (Int.toNat b1) (0, (0, (0, 0)))).1, ((List.getD (List.set (List.set b2 (Int.toNat b1) (b0, (List.getD b2 (Int.toNat b1) (0, (0, (0, 0)))).2)) (Int.toNat b1) ((List.getD (List.set b2 (Int.toNat b1) (b0, (List.getD b2 (Int.toNat b1) (0, (0, (0, 0)))).2)) (Int.toNat b1) (0, (0, (0, 0)))).1, ((wrap64 (b0 + 1)), (List.getD (List.set b2 (Int.toNat b1) (b0, (List.getD b2 (Int.toNat b1) (0, (0, (0, 0)))).2)) (Int.toNat b1) (0, (0, (0, 0)))).2.2))) (Int.toNat b1) (0, (0, (0, 0)))).2.1, ((wrap64 ((wrap64 (b0 + 1)) + 1)), (List.getD (List.set (List.set b2 (Int.toNat b1) (b0, (List.getD b2 (Int.toNat b1) (0, (0, (0, 0)))).2)) (Int.toNat b1) ((List.getD (List.set b2 (Int.toNat b1) (b0, (List.getD b2 (Int.toNat b1) (0, (0, (0, 0)))).2)) (Int.toNat b1) (0, (0, (0, 0)))).1, ((wrap64 (b0 + 1)), (List.getD (List.set b2 (Int.toNat b1) (b0, (List.getD b2 (Int.toNat b1) (0, (0, (0, 0)))).2)) (Int.toNat b1) (0, (0, (0, 0)))).2.2))) (Int.toNat b1) (0, (0, (0, 0)))).2.2.2)))) (Int.toNat b1) (0, (0, (0, 0)))).1, ((List.getD (List.set (List.set (List.set b2 (Int.toNat b1) (b0, (List.getD b2 (Int.toNat b1) (0, (0, (0, 0)))).2)) (Int.toNat b1) ((List.getD (List.set b2 (Int.toNat b1) (b0, (List.getD b2 (Int.toNat b1) (0, (0, (0, 0)))).2)) (Int.toNat b1) (0, (0, (0, 0)))).1, ((wrap64 (b0 + 1)), (List.getD (List.set b2 (Int.toNat b1) (b0, (List.getD b2 (Int.toNat b1) (0, (0, (0, 0)))).2)) (Int.toNat b1) (0, (0, (0, 0)))).2.2))) (Int.toNat b1) ((List.getD (List.set (List.set b2 (Int.toNat b1) (b0, (List.getD b2 (Int.toNat b1) (0, (0, (0, 0)))).2)) (Int.toNat b1) ((List.getD (List.set b2 (Int.toNat b1) (b0, (List.getD b2 (Int.toNat b1) (0, (0, (0, 0)))).2)) (Int.toNat b1) (0, (0, (0, 0)))).1, ((wrap64 (b0 + 1)), (List.getD (List.set b2 (Int.toNat b1) (b0, (List.getD b2 (Int.toNat b1) (0, (0, (0, 0)))).2)) (Int.toNat b1) (0, (0, (0, 0)))).2.2))) (Int.toNat b1) (0, (0, (0, 0)))).1, ((List.getD (List.set (List.set b2 (Int.toNat b1) (b0, (List.getD b2 (Int.toNat b1) (0, (0, (0, 0)))).2)) (Int.toNat b1) ((List.getD (List.set b2 (Int.toNat b1) (b0, (List.getD b2 (Int.toNat b1) (0, (0, (0, 0)))).2)) (Int.toNat b1) (0, (0, (0, 0)))).1, ((wrap64 (b0 + 1)), (List.getD (List.set b2 (Int.toNat b1) (b0, (List.getD b2 (Int.toNat b1) (0, (0, (0, 0)))).2)) (Int.toNat b1) (0, (0, (0, 0)))).2.2))) (Int.toNat b1) (0, (0, (0, 0)))).2.1, ((wrap64 ((wrap64 (b0 + 1)) + 1)), (List.getD (List.set (List.set b2 (Int.toNat b1) (b0, (List.getD b2 (Int.toNat b1) (0, (0, (0, 0)))).2)) (Int.toNat b1) ((List.getD (List.set b2 (Int.toNat b1) (b0, (List.getD b2 (Int.toNat b1) (0, (0, (0, 0)))).2)) (Int.toNat b1) (0, (0, (0, 0)))).1, ((wrap64 (b0 + 1)), (List.getD (List.set b2 (Int.toNat b1) (b0, (List.getD b2 (Int.toNat b1) (0, (0, (0, 0)))).2)) (Int.toNat b1) (0, (0, (0, 0)))).2.2))) (Int.toNat b1) (0, (0, (0, 0)))).2.2.2)))) (Int.toNat b1) (0, (0, (0, 0)))).2.1, ((List.getD (List.set (List.set (List.set b2 (Int.toNat b1) (b0, (List.getD b2 (Int.toNat b1) (0, (0, (0, 0)))).2)) (Int.toNat b1) ((List.getD (List.set b2 (Int.toNat b1) (b0, (List.getD b2 (Int.toNat b1) (0, (0, (0, 0)))).2)) (Int.toNat b1) (0, (0, (0, 0)))).1, ((wrap64 (b0 + 1)), (List.getD (List.set b2 (Int.toNat b1) (b0, (List.getD b2 (Int.toNat b1) (0, (0, (0, 0)))).2)) (Int.toNat b1) (0, (0, (0, 0)))).2.2))) (Int.toNat b1) ((List.getD (List.set (List.set b2 (Int.toNat b1) (b0, (List.getD b2 (Int.toNat b1) (0, (0, (0, 0)))).2)) (Int.toNat b1) ((List.getD (List.set b2 (Int.toNat b1) (b0, (List.getD b2 (Int.toNat b1) (0, (0, (0, 0)))).2)) (Int.toNat b1) (0, (0, (0, 0)))).1, ((wrap64 (b0 + 1)), (List.getD (List.set b2 (Int.toNat b1) (b0, (List.getD b2 (Int.toNat b1) (0, (0, (0, 0)))).2)) (Int.toNat b1) (0, (0, (0, 0)))).2.2))) (Int.toNat b1) (0, (0, (0, 0)))).1, ((List.getD (List.set (List.set b2 (Int.toNat b1) (b0, (List.getD b2 (Int.toNat b1) (0, (0, (0, 0)))).2)) (Int.toNat b1) ((List.getD (List.set b2 (Int.toNat b1) (b0, (List.getD b2 (Int.toNat b1) (0, (0, (0, 0)))).2)) (Int.toNat b1) (0, (0, (0, 0)))).1, ((wrap64 (b0 + 1)), (List.getD (List.set b2 (Int.toNat b1) (b0, (List.getD b2 (Int.toNat b1) (0, (0, (0, 0)))).2)) (Int.toNat b1) (0, (0, (0, 0)))).2.2))) (Int.toNat b1) (0, (0, (0, 0)))).2.1, ((wrap64 ((wrap64 (b0 + 1)) + 1)), (List.getD (List.set (List.set b2 (Int.toNat b1) (b0, (List.getD b2 (Int.toNat b1) (0, (0, (0, 0)))).2)) (Int.toNat b1) ((List.getD (List.set b2 (Int.toNat b1) (b0, (List.getD b2 (Int.toNat b1) (0, (0, (0, 0)))).2)) (Int.toNat b1) (0, (0, (0, 0)))).1, ((wrap64 (b0 + 1)), (List.getD (List.set b2 (Int.toNat b1) (b0, (List.getD b2 (Int.toNat b1) (0, (0, (0, 0)))).2)) (Int.toNat b1) (0, (0, (0, 0)))).2.2))) (Int.toNat b1) (0, (0, (0, 0)))).2.2.2)))) (Int.toNat b1) (0, (0, (0, 0)))).2.2.1, (wrap64 ((wrap64 ((wrap64 (b0 + 1)) + 1)) + 1)))))), ()) else none
           else
            none
          else
           none
         else
          none
        else
         none
       else
        none
      else
       none
     else
      none
    else
     some (b0, b2)
def laws_markOrderS_ (k : Nat) : ((List (Int × (Int × (Int × Int))))) × Int → Option (Int × (List (Int × (Int × (Int × Int)))))
  | (a0, a1) =>
  laws_markOrderS_L2 k (a1, 0, a0, ())
noncomputable def g_laws_markOrderS : ((List (Int × (Int × (Int × Int))))) × Int → Option (Int × (List (Int × (Int × (Int × Int))))) := evG (laws_markOrderS_ )
theorem e_laws_markOrderS : ∀ x b, g_laws_markOrderS x = some b → ∃ k, laws_markOrderS_  k x = some b := evG_e _
/- laws_FnExactPressAll -/
def con_laws_FnExactPressAll (f : Nat → (Int × Bool × Int × Int × ByteArray) × ByteArray → Option (Bool)) : Con := ⟨[.agg [.int .i64, .bool, .int .i64, .int .i64, .str], .c (.str)], 1, [.v false [.bool]], f⟩
def laws_FnExactPressAll_ (impl_PressAll : Nat → (Int × Bool × Int × Int × ByteArray) × ByteArray → Option ((Int × Bool × Int × Int × ByteArray) × ((List (Int × (Int × (Int × Int))))))) (laws_eqMenu : Nat → (Int × Bool × Int × Int × ByteArray) × (Int × Bool × Int × Int × ByteArray) → Option (Bool)) (laws_eqOrderS : Nat → ((List (Int × (Int × (Int × Int))))) × ((List (Int × (Int × (Int × Int))))) → Option (Bool)) (laws_heldOrderS : Nat → ((List (Int × (Int × (Int × Int))))) × Int → Option (Int)) (laws_markOrderS : Nat → ((List (Int × (Int × (Int × Int))))) × Int → Option (Int × (List (Int × (Int × (Int × Int)))))) (laws_szMenu : Nat → (Int × Bool × Int × Int × ByteArray) × Int → Option (Int)) (laws_toMenu : Nat → (Int × Bool × Int × Int × ByteArray) → Option ((Int × Bool × Int × Int × ByteArray))) (spec_PressAll : Nat → (Int × Bool × Int × Int × ByteArray) × ByteArray → Option ((Int × Bool × Int × Int × ByteArray) × ((List (Int × (Int × (Int × Int))))))) (k : Nat) : (Int × Bool × Int × Int × ByteArray) × ByteArray → Option (Bool)
  | ((a0, a1, a2, a3, a4), a5) =>
  if 1048576 < ((ByteArray.size a5 : Nat) : Int) then
   some true
  else
   (laws_szMenu k ((a0, (a1, (a2, (a3, a4)))), 1048576)).bind fun v0 =>
   if v0 < 0 then
    some true
   else
    (laws_toMenu k (a0, (a1, (a2, (a3, a4))))).bind fun v1 =>
    (spec_PressAll k (v1, a5)).bind fun v2 =>
    (laws_toMenu k (a0, (a1, (a2, (a3, a4))))).bind fun v3 =>
    (impl_PressAll k (v3, a5)).bind fun v4 =>
    (laws_eqMenu k (v4.1, v2.1)).bind fun v5 =>
    if v5 = true then
     (laws_eqOrderS k (v4.2, v2.2)).bind fun v6 =>
     if v6 = true then
      (laws_markOrderS k (v4.2, 1)).bind fun v7 =>
      (laws_heldOrderS k (v7.2, 1)).bind fun v8 =>
      if v8 < 0 then
       some false
      else
       if v8 = v7.1 then
        (laws_toMenu k (a0, (a1, (a2, (a3, a4))))).bind fun v9 =>
        (impl_PressAll k (v9, a5)).bind fun v10 =>
        (laws_eqMenu k (v10.1, v2.1)).bind fun v11 =>
        if v11 = true then
         (laws_eqOrderS k (v10.2, v2.2)).bind fun v12 =>
         if v12 = true then
          (laws_heldOrderS k (v7.2, 1)).bind fun v13 =>
          if v13 < 0 then
           some false
          else
           if v13 = v7.1 then
            some true
           else
            some false
         else
          some false
        else
         some false
       else
        some false
     else
      some false
    else
     some false
noncomputable def g_laws_FnExactPressAll : (Int × Bool × Int × Int × ByteArray) × ByteArray → Option (Bool) := laws_FnExactPressAll_ (fun _ => g_impl_PressAll) (fun _ => g_laws_eqMenu) (fun _ => g_laws_eqOrderS) (fun _ => g_laws_heldOrderS) (fun _ => g_laws_markOrderS) (fun _ => g_laws_szMenu) (fun _ => g_laws_toMenu) (fun _ => g_spec_PressAll) 0
theorem e_laws_FnExactPressAll : ∀ x b, g_laws_FnExactPressAll x = some b → ∃ k, laws_FnExactPressAll_ (fun _ => g_impl_PressAll) (fun _ => g_laws_eqMenu) (fun _ => g_laws_eqOrderS) (fun _ => g_laws_heldOrderS) (fun _ => g_laws_markOrderS) (fun _ => g_laws_szMenu) (fun _ => g_laws_toMenu) (fun _ => g_spec_PressAll) k x = some b := fun x b h => ⟨0, h⟩
end Go.Sx.T
