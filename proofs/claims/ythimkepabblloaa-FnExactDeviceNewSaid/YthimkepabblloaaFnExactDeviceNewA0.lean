/- Functions of the program as functions of Lean, and that the program keeps to them. -/
import Derived.Test.YthimkepabblloaaSxP5
set_option maxRecDepth 100000
set_option linter.unusedVariables false
set_option linter.unusedSimpArgs false
namespace Go.Proofs
end Go.Proofs
namespace Go.Sx.T
open Go Go.Sx Go.Proofs Go.RowKit
/- laws_heldTickS -/
def con_laws_heldTickS (f : Nat → ((List (Int × (Int × Int)))) × Int → Option (Int)) : Con := ⟨[.c (.sl (.pair (.int .i64) (.pair (.int .i64) (.int .i64)))), .c (.int .i64)], 1, [.v false [.int .i64]], f⟩
def laws_heldTickS_L2 : Nat → Int × Int × (List (Int × (Int × Int))) × Unit → Option (Int)
  | 0, _ => none
  | k + 1, (b0, b1, b2, ()) =>
    if b1 < ((List.length b2 : Nat) : Int) then
     if 0 ≤ b1 then
      if b1 < ((List.length b2 : Nat) : Int) then
       if (List.getD b2 (Int.toNat b1) (0, (0, 0))).1 = b0 then
        if 0 ≤ b1 then
         if b1 < ((List.length b2 : Nat) : Int) then
          if (List.getD b2 (Int.toNat b1) (0, (0, 0))).2.1 = (wrap64 (b0 + 1)) then
           if 0 ≤ b1 then
            if b1 < ((List.length b2 : Nat) : Int) then
             if (List.getD b2 (Int.toNat b1) (0, (0, 0))).2.2 = (wrap64 ((wrap64 (b0 + 1)) + 1)) then
              laws_heldTickS_L2 k ((wrap64 ((wrap64 ((wrap64 (b0 + 1)) + 1)) + 1)), (wrap64 (b1 + 1)), b2, ())
             else
              some (-1)
            else
             none
           else
            none
          else
           some (-1)
         else
          none
        else
         none
       else
        some (-1)
      else
       none
     else
      none
    else
     some b0
def laws_heldTickS_ (k : Nat) : ((List (Int × (Int × Int)))) × Int → Option (Int)
  | (a0, a1) =>
  laws_heldTickS_L2 k (a1, 0, a0, ())
noncomputable def g_laws_heldTickS : ((List (Int × (Int × Int)))) × Int → Option (Int) := evG (laws_heldTickS_ )
theorem e_laws_heldTickS : ∀ x b, g_laws_heldTickS x = some b → ∃ k, laws_heldTickS_  k x = some b := evG_e _
/- laws_heldIntS -/
def con_laws_heldIntS (f : Nat → List Int × Int → Option (Int)) : Con := ⟨[.c (.sl (.int .i64)), .c (.int .i64)], 1, [.v false [.int .i64]], f⟩
def laws_heldIntS_L2 : Nat → Int × Int × List Int × Unit → Option (Int)
  | 0, _ => none
  | k + 1, (b0, b1, b2, ()) =>
    if b1 < ((List.length b2 : Nat) : Int) then
     if 0 ≤ b1 then
      if b1 < ((List.length b2 : Nat) : Int) then
       if (List.getD b2 (Int.toNat b1) 0) = b0 then
        laws_heldIntS_L2 k ((wrap64 (b0 + 1)), (wrap64 (b1 + 1)), b2, ())
       else
        some (-1)
      else
       none
     else
      none
    else
     some b0
def laws_heldIntS_ (k : Nat) : List Int × Int → Option (Int)
  | (a0, a1) =>
  laws_heldIntS_L2 k (a1, 0, a0, ())
noncomputable def g_laws_heldIntS : List Int × Int → Option (Int) := evG (laws_heldIntS_ )
theorem e_laws_heldIntS : ∀ x b, g_laws_heldIntS x = some b → ∃ k, laws_heldIntS_  k x = some b := evG_e _
/- laws_heldGuard -/
def con_laws_heldGuard (f : Nat → (List Int × Int) × Int → Option (Int)) : Con := ⟨[.agg [.sl (.int .i64), .int .i64], .c (.int .i64)], 1, [.v false [.int .i64]], f⟩
def laws_heldGuard_ (laws_heldIntS : Nat → List Int × Int → Option (Int)) (k : Nat) : (List Int × Int) × Int → Option (Int)
  | ((a0, a1), a2) =>
  (laws_heldIntS k (a0, a2)).bind fun v0 =>
  if v0 < 0 then
   some (-1)
  else
   some v0
noncomputable def g_laws_heldGuard : (List Int × Int) × Int → Option (Int) := laws_heldGuard_ (fun _ => g_laws_heldIntS) 0
theorem e_laws_heldGuard : ∀ x b, g_laws_heldGuard x = some b → ∃ k, laws_heldGuard_ (fun _ => g_laws_heldIntS) k x = some b := fun x b h => ⟨0, h⟩
/- laws_heldDevice -/
def con_laws_heldDevice (f : Nat → (Int × Int × Int × Int × Int × Int × Int × Int × List Int × Int × Int × Bool × Int × Int × ByteArray × (List (Int × (Int × Int))) × Int) × Int → Option (Int)) : Con := ⟨[.agg [.int .i64, .int .i64, .int .i64, .int .i64, .int .i64, .int .i64, .int .i64, .int .i64, .sl (.int .i64), .int .i64, .int .i64, .bool, .int .i64, .int .i64, .str, .sl (.pair (.int .i64) (.pair (.int .i64) (.int .i64))), .int .i64], .c (.int .i64)], 1, [.v false [.int .i64]], f⟩
def laws_heldDevice_ (laws_heldGuard : Nat → (List Int × Int) × Int → Option (Int)) (laws_heldTickS : Nat → ((List (Int × (Int × Int)))) × Int → Option (Int)) (k : Nat) : (Int × Int × Int × Int × Int × Int × Int × Int × List Int × Int × Int × Bool × Int × Int × ByteArray × (List (Int × (Int × Int))) × Int) × Int → Option (Int)
  | ((a0, a1, a2, a3, a4, a5, a6, a7, a8, a9, a10, a11, a12, a13, a14, a15, a16), a17) =>
  (laws_heldGuard k ((a8, a9), a17)).bind fun v0 =>
  if v0 < 0 then
   some (-1)
  else
   (laws_heldTickS k (a15, v0)).bind fun v1 =>
   if v1 < 0 then
    some (-1)
   else
    some v1
noncomputable def g_laws_heldDevice : (Int × Int × Int × Int × Int × Int × Int × Int × List Int × Int × Int × Bool × Int × Int × ByteArray × (List (Int × (Int × Int))) × Int) × Int → Option (Int) := laws_heldDevice_ (fun _ => g_laws_heldGuard) (fun _ => g_laws_heldTickS) 0
theorem e_laws_heldDevice : ∀ x b, g_laws_heldDevice x = some b → ∃ k, laws_heldDevice_ (fun _ => g_laws_heldGuard) (fun _ => g_laws_heldTickS) k x = some b := fun x b h => ⟨0, h⟩
/- laws_eqTick -/
def con_laws_eqTick (f : Nat → (Int × Int × Int) × (Int × Int × Int) → Option (Bool)) : Con := ⟨[.agg [.int .i64, .int .i64, .int .i64], .agg [.int .i64, .int .i64, .int .i64]], 1, [.v false [.bool]], f⟩
def laws_eqTick_ (k : Nat) : (Int × Int × Int) × (Int × Int × Int) → Option (Bool)
  | ((a0, a1, a2), (a3, a4, a5)) =>
  if a0 = a3 then
   if a1 = a4 then
    if a2 = a5 then
     some true
    else
     some false
   else
    some false
  else
   some false
noncomputable def g_laws_eqTick : (Int × Int × Int) × (Int × Int × Int) → Option (Bool) := laws_eqTick_  0
theorem e_laws_eqTick : ∀ x b, g_laws_eqTick x = some b → ∃ k, laws_eqTick_  k x = some b := fun x b h => ⟨0, h⟩
/- laws_eqTickS -/
def con_laws_eqTickS (f : Nat → ((List (Int × (Int × Int)))) × ((List (Int × (Int × Int)))) → Option (Bool)) : Con := ⟨[.c (.sl (.pair (.int .i64) (.pair (.int .i64) (.int .i64)))), .c (.sl (.pair (.int .i64) (.pair (.int .i64) (.int .i64))))], 1, [.v false [.bool]], f⟩
def laws_eqTickS_L4 (laws_eqTick : Nat → (Int × Int × Int) × (Int × Int × Int) → Option (Bool)) : Nat → Int × (List (Int × (Int × Int))) × (List (Int × (Int × Int))) × Unit → Option (Bool)
  | 0, _ => none
  | k + 1, (b0, b1, b2, ()) =>
    if b0 < ((List.length b1 : Nat) : Int) then
     if 0 ≤ b0 then
      if b0 < ((List.length b1 : Nat) : Int) then
       if 0 ≤ b0 then
        if b0 < ((List.length b2 : Nat) : Int) then (laws_eqTick k ((List.getD b1 (Int.toNat b0) (0, (0, 0))), (List.getD b2 (Int.toNat b0) (0, (0, 0))))).bind fun v0 =>
         if v0 = true then
          laws_eqTickS_L4 laws_eqTick k ((wrap64 (b0 + 1)), b1, b2, ())
         else
          some false else none
       else
        none
      else
       none
     else
      none
    else
     some true
def laws_eqTickS_ (laws_eqTick : Nat → (Int × Int × Int) × (Int × Int × Int) → Option (Bool)) (k : Nat) : ((List (Int × (Int × Int)))) × ((List (Int × (Int × Int)))) → Option (Bool)
  | (a0, a1) =>
  if ((List.length a0 : Nat) : Int) = ((List.length a1 : Nat) : Int) then
   laws_eqTickS_L4 laws_eqTick k (0, a0, a1, ())
  else
   some false
noncomputable def g_laws_eqTickS : ((List (Int × (Int × Int)))) × ((List (Int × (Int × Int)))) → Option (Bool) := evG (laws_eqTickS_ (fun _ => g_laws_eqTick))
theorem e_laws_eqTickS : ∀ x b, g_laws_eqTickS x = some b → ∃ k, laws_eqTickS_ (fun _ => g_laws_eqTick) k x = some b := evG_e _
/- laws_eqMenu -/
def con_laws_eqMenu (f : Nat → (Int × Bool × Int × Int × ByteArray) × (Int × Bool × Int × Int × ByteArray) → Option (Bool)) : Con := ⟨[.agg [.int .i64, .bool, .int .i64, .int .i64, .str], .agg [.int .i64, .bool, .int .i64, .int .i64, .str]], 1, [.v false [.bool]], f⟩
def laws_eqMenu_ (k : Nat) : (Int × Bool × Int × Int × ByteArray) × (Int × Bool × Int × Int × ByteArray) → Option (Bool)
  | ((a0, a1, a2, a3, a4), (a5, a6, a7, a8, a9)) =>
  if a0 = a5 then
   if (a1 == a6) = true then
    if a2 = a7 then
     if a3 = a8 then
      if a4 = a9 then
       some true
      else
       some false
     else
      some false
    else
     some false
   else
    some false
  else
   some false
noncomputable def g_laws_eqMenu : (Int × Bool × Int × Int × ByteArray) × (Int × Bool × Int × Int × ByteArray) → Option (Bool) := laws_eqMenu_  0
theorem e_laws_eqMenu : ∀ x b, g_laws_eqMenu x = some b → ∃ k, laws_eqMenu_  k x = some b := fun x b h => ⟨0, h⟩
/- laws_eqIntS -/
def con_laws_eqIntS (f : Nat → List Int × List Int → Option (Bool)) : Con := ⟨[.c (.sl (.int .i64)), .c (.sl (.int .i64))], 1, [.v false [.bool]], f⟩
def laws_eqIntS_L4 : Nat → Int × List Int × List Int × Unit → Option (Bool)
  | 0, _ => none
  | k + 1, (b0, b1, b2, ()) =>
    if b0 < ((List.length b1 : Nat) : Int) then
     if 0 ≤ b0 then
      if b0 < ((List.length b1 : Nat) : Int) then
       if 0 ≤ b0 then
        if b0 < ((List.length b2 : Nat) : Int) then
         if (List.getD b1 (Int.toNat b0) 0) = (List.getD b2 (Int.toNat b0) 0) then
          laws_eqIntS_L4 k ((wrap64 (b0 + 1)), b1, b2, ())
         else
          some false
        else
         none
       else
        none
      else
       none
     else
      none
    else
     some true
def laws_eqIntS_ (k : Nat) : List Int × List Int → Option (Bool)
  | (a0, a1) =>
  if ((List.length a0 : Nat) : Int) = ((List.length a1 : Nat) : Int) then
   laws_eqIntS_L4 k (0, a0, a1, ())
  else
   some false
noncomputable def g_laws_eqIntS : List Int × List Int → Option (Bool) := evG (laws_eqIntS_ )
theorem e_laws_eqIntS : ∀ x b, g_laws_eqIntS x = some b → ∃ k, laws_eqIntS_  k x = some b := evG_e _
/- laws_eqGuard -/
def con_laws_eqGuard (f : Nat → (List Int × Int) × (List Int × Int) → Option (Bool)) : Con := ⟨[.agg [.sl (.int .i64), .int .i64], .agg [.sl (.int .i64), .int .i64]], 1, [.v false [.bool]], f⟩
def laws_eqGuard_ (laws_eqIntS : Nat → List Int × List Int → Option (Bool)) (k : Nat) : (List Int × Int) × (List Int × Int) → Option (Bool)
  | ((a0, a1), (a2, a3)) =>
  (laws_eqIntS k (a0, a2)).bind fun v0 =>
  if v0 = true then
   if a1 = a3 then
    some true
   else
    some false
  else
   some false
noncomputable def g_laws_eqGuard : (List Int × Int) × (List Int × Int) → Option (Bool) := laws_eqGuard_ (fun _ => g_laws_eqIntS) 0
theorem e_laws_eqGuard : ∀ x b, g_laws_eqGuard x = some b → ∃ k, laws_eqGuard_ (fun _ => g_laws_eqIntS) k x = some b := fun x b h => ⟨0, h⟩
/- laws_eqRate -/
def con_laws_eqRate (f : Nat → (Int × Int × Int) × (Int × Int × Int) → Option (Bool)) : Con := ⟨[.agg [.int .i64, .int .i64, .int .i64], .agg [.int .i64, .int .i64, .int .i64]], 1, [.v false [.bool]], f⟩
def laws_eqRate_ (k : Nat) : (Int × Int × Int) × (Int × Int × Int) → Option (Bool)
  | ((a0, a1, a2), (a3, a4, a5)) =>
  if a0 = a3 then
   if a1 = a4 then
    if a2 = a5 then
     some true
    else
     some false
   else
    some false
  else
   some false
noncomputable def g_laws_eqRate : (Int × Int × Int) × (Int × Int × Int) → Option (Bool) := laws_eqRate_  0
theorem e_laws_eqRate : ∀ x b, g_laws_eqRate x = some b → ∃ k, laws_eqRate_  k x = some b := fun x b h => ⟨0, h⟩
/- laws_eqPump -/
def con_laws_eqPump (f : Nat → (Int × Int × Int × Int × Int × Int × Int × Int) × (Int × Int × Int × Int × Int × Int × Int × Int) → Option (Bool)) : Con := ⟨[.agg [.int .i64, .int .i64, .int .i64, .int .i64, .int .i64, .int .i64, .int .i64, .int .i64], .agg [.int .i64, .int .i64, .int .i64, .int .i64, .int .i64, .int .i64, .int .i64, .int .i64]], 1, [.v false [.bool]], f⟩
def laws_eqPump_ (laws_eqRate : Nat → (Int × Int × Int) × (Int × Int × Int) → Option (Bool)) (k : Nat) : (Int × Int × Int × Int × Int × Int × Int × Int) × (Int × Int × Int × Int × Int × Int × Int × Int) → Option (Bool)
  | ((a0, a1, a2, a3, a4, a5, a6, a7), (a8, a9, a10, a11, a12, a13, a14, a15)) =>
  if a0 = a8 then
   (laws_eqRate k ((a1, (a2, a3)), (a9, (a10, a11)))).bind fun v0 =>
   if v0 = true then
    if a4 = a12 then
     if a5 = a13 then
      if a6 = a14 then
       if a7 = a15 then
        some true
       else
        some false
      else
       some false
     else
      some false
    else
     some false
   else
    some false
  else
   some false
noncomputable def g_laws_eqPump : (Int × Int × Int × Int × Int × Int × Int × Int) × (Int × Int × Int × Int × Int × Int × Int × Int) → Option (Bool) := laws_eqPump_ (fun _ => g_laws_eqRate) 0
theorem e_laws_eqPump : ∀ x b, g_laws_eqPump x = some b → ∃ k, laws_eqPump_ (fun _ => g_laws_eqRate) k x = some b := fun x b h => ⟨0, h⟩
/- laws_eqDevice -/
def con_laws_eqDevice (f : Nat → (Int × Int × Int × Int × Int × Int × Int × Int × List Int × Int × Int × Bool × Int × Int × ByteArray × (List (Int × (Int × Int))) × Int) × (Int × Int × Int × Int × Int × Int × Int × Int × List Int × Int × Int × Bool × Int × Int × ByteArray × (List (Int × (Int × Int))) × Int) → Option (Bool)) : Con := ⟨[.agg [.int .i64, .int .i64, .int .i64, .int .i64, .int .i64, .int .i64, .int .i64, .int .i64, .sl (.int .i64), .int .i64, .int .i64, .bool, .int .i64, .int .i64, .str, .sl (.pair (.int .i64) (.pair (.int .i64) (.int .i64))), .int .i64], .agg [.int .i64, .int .i64, .int .i64, .int .i64, .int .i64, .int .i64, .int .i64, .int .i64, .sl (.int .i64), .int .i64, .int .i64, .bool, .int .i64, .int .i64, .str, .sl (.pair (.int .i64) (.pair (.int .i64) (.int .i64))), .int .i64]], 1, [.v false [.bool]], f⟩
def laws_eqDevice_ (laws_eqGuard : Nat → (List Int × Int) × (List Int × Int) → Option (Bool)) (laws_eqMenu : Nat → (Int × Bool × Int × Int × ByteArray) × (Int × Bool × Int × Int × ByteArray) → Option (Bool)) (laws_eqPump : Nat → (Int × Int × Int × Int × Int × Int × Int × Int) × (Int × Int × Int × Int × Int × Int × Int × Int) → Option (Bool)) (laws_eqTickS : Nat → ((List (Int × (Int × Int)))) × ((List (Int × (Int × Int)))) → Option (Bool)) (k : Nat) : (Int × Int × Int × Int × Int × Int × Int × Int × List Int × Int × Int × Bool × Int × Int × ByteArray × (List (Int × (Int × Int))) × Int) × (Int × Int × Int × Int × Int × Int × Int × Int × List Int × Int × Int × Bool × Int × Int × ByteArray × (List (Int × (Int × Int))) × Int) → Option (Bool)
  | ((a0, a1, a2, a3, a4, a5, a6, a7, a8, a9, a10, a11, a12, a13, a14, a15, a16), (a17, a18, a19, a20, a21, a22, a23, a24, a25, a26, a27, a28, a29, a30, a31, a32, a33)) =>
  (laws_eqPump k ((a0, (a1, (a2, (a3, (a4, (a5, (a6, a7))))))), (a17, (a18, (a19, (a20, (a21, (a22, (a23, a24))))))))).bind fun v0 =>
  if v0 = true then
   (laws_eqGuard k ((a8, a9), (a25, a26))).bind fun v1 =>
   if v1 = true then
    (laws_eqMenu k ((a10, (a11, (a12, (a13, a14)))), (a27, (a28, (a29, (a30, a31)))))).bind fun v2 =>
    if v2 = true then
     (laws_eqTickS k (a15, a32)).bind fun v3 =>
     if v3 = true then
      if a16 = a33 then
       some true
      else
       some false
     else
      some false
    else
     some false
   else
    some false
  else
   some false
noncomputable def g_laws_eqDevice : (Int × Int × Int × Int × Int × Int × Int × Int × List Int × Int × Int × Bool × Int × Int × ByteArray × (List (Int × (Int × Int))) × Int) × (Int × Int × Int × Int × Int × Int × Int × Int × List Int × Int × Int × Bool × Int × Int × ByteArray × (List (Int × (Int × Int))) × Int) → Option (Bool) := laws_eqDevice_ (fun _ => g_laws_eqGuard) (fun _ => g_laws_eqMenu) (fun _ => g_laws_eqPump) (fun _ => g_laws_eqTickS) 0
theorem e_laws_eqDevice : ∀ x b, g_laws_eqDevice x = some b → ∃ k, laws_eqDevice_ (fun _ => g_laws_eqGuard) (fun _ => g_laws_eqMenu) (fun _ => g_laws_eqPump) (fun _ => g_laws_eqTickS) k x = some b := fun x b h => ⟨0, h⟩
/- impl_MenuNew -/
def con_impl_MenuNew (f : Nat → Unit → Option ((Int × Bool × Int × Int × ByteArray))) : Con := ⟨[], 1, [.v true [.int .i64, .bool, .int .i64, .int .i64, .str]], f⟩
def impl_MenuNew_ (k : Nat) : Unit → Option ((Int × Bool × Int × Int × ByteArray))
  | () =>
  some (1, (false, (0, (0, (⟨#[]⟩ : ByteArray)))))
noncomputable def g_impl_MenuNew : Unit → Option ((Int × Bool × Int × Int × ByteArray)) := impl_MenuNew_  0
theorem e_impl_MenuNew : ∀ x b, g_impl_MenuNew x = some b → ∃ k, impl_MenuNew_  k x = some b := fun x b h => ⟨0, h⟩
/- impl_PumpNew -/
def con_impl_PumpNew (f : Nat → Unit → Option ((Int × Int × Int × Int × Int × Int × Int × Int))) : Con := ⟨[], 1, [.v true [.int .i64, .int .i64, .int .i64, .int .i64, .int .i64, .int .i64, .int .i64, .int .i64]], f⟩
def impl_PumpNew_ (k : Nat) : Unit → Option ((Int × Int × Int × Int × Int × Int × Int × Int))
  | () =>
  some (0, (0, (1, (0, (0, (0, (0, 0)))))))
noncomputable def g_impl_PumpNew : Unit → Option ((Int × Int × Int × Int × Int × Int × Int × Int)) := impl_PumpNew_  0
theorem e_impl_PumpNew : ∀ x b, g_impl_PumpNew x = some b → ∃ k, impl_PumpNew_  k x = some b := fun x b h => ⟨0, h⟩
/- impl_DeviceNew -/
def con_impl_DeviceNew (f : Nat → Unit → Option ((Int × Int × Int × Int × Int × Int × Int × Int × List Int × Int × Int × Bool × Int × Int × ByteArray × (List (Int × (Int × Int))) × Int))) : Con := ⟨[], 1, [.v true [.int .i64, .int .i64, .int .i64, .int .i64, .int .i64, .int .i64, .int .i64, .int .i64, .own (.int .i64) 3, .int .i64, .int .i64, .bool, .int .i64, .int .i64, .str, .own (.pair (.int .i64) (.pair (.int .i64) (.int .i64))) 96, .int .i64]], f⟩
def impl_DeviceNew_ (impl_MenuNew : Nat → Unit → Option ((Int × Bool × Int × Int × ByteArray))) (impl_PumpNew : Nat → Unit → Option ((Int × Int × Int × Int × Int × Int × Int × Int))) (k : Nat) : Unit → Option ((Int × Int × Int × Int × Int × Int × Int × Int × List Int × Int × Int × Bool × Int × Int × ByteArray × (List (Int × (Int × Int))) × Int))
  | () =>
  (impl_PumpNew k ()).bind fun v0 =>
  (impl_MenuNew k ()).bind fun v1 =>
  some (v0.1, (v0.2.1, (v0.2.2.1, (v0.2.2.2.1, (v0.2.2.2.2.1, (v0.2.2.2.2.2.1, (v0.2.2.2.2.2.2.1, (v0.2.2.2.2.2.2.2, (([] : List Int), (0, (v1.1, (v1.2.1, (v1.2.2.1, (v1.2.2.2.1, (v1.2.2.2.2, (([] : List (Int × (Int × Int))), 0))))))))))))))))
noncomputable def g_impl_DeviceNew : Unit → Option ((Int × Int × Int × Int × Int × Int × Int × Int × List Int × Int × Int × Bool × Int × Int × ByteArray × (List (Int × (Int × Int))) × Int)) := impl_DeviceNew_ (fun _ => g_impl_MenuNew) (fun _ => g_impl_PumpNew) 0
theorem e_impl_DeviceNew : ∀ x b, g_impl_DeviceNew x = some b → ∃ k, impl_DeviceNew_ (fun _ => g_impl_MenuNew) (fun _ => g_impl_PumpNew) k x = some b := fun x b h => ⟨0, h⟩
/- laws_markTickS -/
def con_laws_markTickS (f : Nat → ((List (Int × (Int × Int)))) × Int → Option (Int)) : Con := ⟨[.c (.sl (.pair (.int .i64) (.pair (.int .i64) (.int .i64)))), .c (.int .i64)], 1, [.v false [.int .i64]], f⟩
def laws_markTickS_L2 : Nat → Int × Int × (List (Int × (Int × Int))) × Unit → Option (Int)
  | 0, _ => none
  | k + 1, (b0, b1, b2, ()) =>
    if b1 < ((List.length b2 : Nat) : Int) then
     if 0 ≤ b1 then
      if b1 < ((List.length b2 : Nat) : Int) then none else none
     else
      none
    else
     some b0
def laws_markTickS_ (k : Nat) : ((List (Int × (Int × Int)))) × Int → Option (Int)
  | (a0, a1) =>
  laws_markTickS_L2 k (a1, 0, a0, ())
noncomputable def g_laws_markTickS : ((List (Int × (Int × Int)))) × Int → Option (Int) := evG (laws_markTickS_ )
theorem e_laws_markTickS : ∀ x b, g_laws_markTickS x = some b → ∃ k, laws_markTickS_  k x = some b := evG_e _
/- laws_markIntS -/
def con_laws_markIntS (f : Nat → List Int × Int → Option (Int)) : Con := ⟨[.c (.sl (.int .i64)), .c (.int .i64)], 1, [.v false [.int .i64]], f⟩
def laws_markIntS_L2 : Nat → Int × Int × List Int × Unit → Option (Int)
  | 0, _ => none
  | k + 1, (b0, b1, b2, ()) =>
    if b1 < ((List.length b2 : Nat) : Int) then
     if 0 ≤ b1 then
      if b1 < ((List.length b2 : Nat) : Int) then none else none
     else
      none
    else
     some b0
def laws_markIntS_ (k : Nat) : List Int × Int → Option (Int)
  | (a0, a1) =>
  laws_markIntS_L2 k (a1, 0, a0, ())
noncomputable def g_laws_markIntS : List Int × Int → Option (Int) := evG (laws_markIntS_ )
theorem e_laws_markIntS : ∀ x b, g_laws_markIntS x = some b → ∃ k, laws_markIntS_  k x = some b := evG_e _
/- laws_markGuard -/
def con_laws_markGuard (f : Nat → (List Int × Int) × Int → Option (Int)) : Con := ⟨[.agg [.sl (.int .i64), .int .i64], .c (.int .i64)], 1, [.v false [.int .i64]], f⟩
def laws_markGuard_ (laws_markIntS : Nat → List Int × Int → Option (Int)) (k : Nat) : (List Int × Int) × Int → Option (Int)
  | ((a0, a1), a2) =>
  (laws_markIntS k (a0, a2)).bind fun v0 =>
  some v0
noncomputable def g_laws_markGuard : (List Int × Int) × Int → Option (Int) := laws_markGuard_ (fun _ => g_laws_markIntS) 0
theorem e_laws_markGuard : ∀ x b, g_laws_markGuard x = some b → ∃ k, laws_markGuard_ (fun _ => g_laws_markIntS) k x = some b := fun x b h => ⟨0, h⟩
/- laws_markDevice -/
def con_laws_markDevice (f : Nat → (Int × Int × Int × Int × Int × Int × Int × Int × List Int × Int × Int × Bool × Int × Int × ByteArray × (List (Int × (Int × Int))) × Int) × Int → Option (Int)) : Con := ⟨[.agg [.int .i64, .int .i64, .int .i64, .int .i64, .int .i64, .int .i64, .int .i64, .int .i64, .sl (.int .i64), .int .i64, .int .i64, .bool, .int .i64, .int .i64, .str, .sl (.pair (.int .i64) (.pair (.int .i64) (.int .i64))), .int .i64], .c (.int .i64)], 1, [.v false [.int .i64]], f⟩
def laws_markDevice_ (laws_markGuard : Nat → (List Int × Int) × Int → Option (Int)) (laws_markTickS : Nat → ((List (Int × (Int × Int)))) × Int → Option (Int)) (k : Nat) : (Int × Int × Int × Int × Int × Int × Int × Int × List Int × Int × Int × Bool × Int × Int × ByteArray × (List (Int × (Int × Int))) × Int) × Int → Option (Int)
  | ((a0, a1, a2, a3, a4, a5, a6, a7, a8, a9, a10, a11, a12, a13, a14, a15, a16), a17) =>
  (laws_markGuard k ((a8, a9), a17)).bind fun v0 =>
  (laws_markTickS k (a15, v0)).bind fun v1 =>
  some v1
noncomputable def g_laws_markDevice : (Int × Int × Int × Int × Int × Int × Int × Int × List Int × Int × Int × Bool × Int × Int × ByteArray × (List (Int × (Int × Int))) × Int) × Int → Option (Int) := laws_markDevice_ (fun _ => g_laws_markGuard) (fun _ => g_laws_markTickS) 0
theorem e_laws_markDevice : ∀ x b, g_laws_markDevice x = some b → ∃ k, laws_markDevice_ (fun _ => g_laws_markGuard) (fun _ => g_laws_markTickS) k x = some b := fun x b h => ⟨0, h⟩
/- spec_MenuNew -/
def con_spec_MenuNew (f : Nat → Unit → Option ((Int × Bool × Int × Int × ByteArray))) : Con := ⟨[], 1, [.v true [.int .i64, .bool, .int .i64, .int .i64, .str]], f⟩
def spec_MenuNew_ (k : Nat) : Unit → Option ((Int × Bool × Int × Int × ByteArray))
  | () =>
  some (1, (false, (0, (0, (⟨#[]⟩ : ByteArray)))))
noncomputable def g_spec_MenuNew : Unit → Option ((Int × Bool × Int × Int × ByteArray)) := spec_MenuNew_  0
theorem e_spec_MenuNew : ∀ x b, g_spec_MenuNew x = some b → ∃ k, spec_MenuNew_  k x = some b := fun x b h => ⟨0, h⟩
/- spec_PumpNew -/
def con_spec_PumpNew (f : Nat → Unit → Option ((Int × Int × Int × Int × Int × Int × Int × Int))) : Con := ⟨[], 1, [.v true [.int .i64, .int .i64, .int .i64, .int .i64, .int .i64, .int .i64, .int .i64, .int .i64]], f⟩
def spec_PumpNew_ (k : Nat) : Unit → Option ((Int × Int × Int × Int × Int × Int × Int × Int))
  | () =>
  some (0, (0, (1, (0, (0, (0, (0, 0)))))))
noncomputable def g_spec_PumpNew : Unit → Option ((Int × Int × Int × Int × Int × Int × Int × Int)) := spec_PumpNew_  0
theorem e_spec_PumpNew : ∀ x b, g_spec_PumpNew x = some b → ∃ k, spec_PumpNew_  k x = some b := fun x b h => ⟨0, h⟩
/- spec_DeviceNew -/
def con_spec_DeviceNew (f : Nat → Unit → Option ((Int × Int × Int × Int × Int × Int × Int × Int × List Int × Int × Int × Bool × Int × Int × ByteArray × (List (Int × (Int × Int))) × Int))) : Con := ⟨[], 1, [.v true [.int .i64, .int .i64, .int .i64, .int .i64, .int .i64, .int .i64, .int .i64, .int .i64, .own (.int .i64) 3, .int .i64, .int .i64, .bool, .int .i64, .int .i64, .str, .own (.pair (.int .i64) (.pair (.int .i64) (.int .i64))) 96, .int .i64]], f⟩
def spec_DeviceNew_ (spec_MenuNew : Nat → Unit → Option ((Int × Bool × Int × Int × ByteArray))) (spec_PumpNew : Nat → Unit → Option ((Int × Int × Int × Int × Int × Int × Int × Int))) (k : Nat) : Unit → Option ((Int × Int × Int × Int × Int × Int × Int × Int × List Int × Int × Int × Bool × Int × Int × ByteArray × (List (Int × (Int × Int))) × Int))
  | () =>
  (spec_PumpNew k ()).bind fun v0 =>
  (spec_MenuNew k ()).bind fun v1 =>
  some (v0.1, (v0.2.1, (v0.2.2.1, (v0.2.2.2.1, (v0.2.2.2.2.1, (v0.2.2.2.2.2.1, (v0.2.2.2.2.2.2.1, (v0.2.2.2.2.2.2.2, (([] : List Int), (0, (v1.1, (v1.2.1, (v1.2.2.1, (v1.2.2.2.1, (v1.2.2.2.2, (([] : List (Int × (Int × Int))), 0))))))))))))))))
noncomputable def g_spec_DeviceNew : Unit → Option ((Int × Int × Int × Int × Int × Int × Int × Int × List Int × Int × Int × Bool × Int × Int × ByteArray × (List (Int × (Int × Int))) × Int)) := spec_DeviceNew_ (fun _ => g_spec_MenuNew) (fun _ => g_spec_PumpNew) 0
theorem e_spec_DeviceNew : ∀ x b, g_spec_DeviceNew x = some b → ∃ k, spec_DeviceNew_ (fun _ => g_spec_MenuNew) (fun _ => g_spec_PumpNew) k x = some b := fun x b h => ⟨0, h⟩
/- laws_FnExactDeviceNew -/
def con_laws_FnExactDeviceNew (f : Nat → Unit → Option (Bool)) : Con := ⟨[], 1, [.v false [.bool]], f⟩
def laws_FnExactDeviceNew_ (impl_DeviceNew : Nat → Unit → Option ((Int × Int × Int × Int × Int × Int × Int × Int × List Int × Int × Int × Bool × Int × Int × ByteArray × (List (Int × (Int × Int))) × Int))) (laws_eqDevice : Nat → (Int × Int × Int × Int × Int × Int × Int × Int × List Int × Int × Int × Bool × Int × Int × ByteArray × (List (Int × (Int × Int))) × Int) × (Int × Int × Int × Int × Int × Int × Int × Int × List Int × Int × Int × Bool × Int × Int × ByteArray × (List (Int × (Int × Int))) × Int) → Option (Bool)) (laws_heldDevice : Nat → (Int × Int × Int × Int × Int × Int × Int × Int × List Int × Int × Int × Bool × Int × Int × ByteArray × (List (Int × (Int × Int))) × Int) × Int → Option (Int)) (laws_markDevice : Nat → (Int × Int × Int × Int × Int × Int × Int × Int × List Int × Int × Int × Bool × Int × Int × ByteArray × (List (Int × (Int × Int))) × Int) × Int → Option (Int)) (spec_DeviceNew : Nat → Unit → Option ((Int × Int × Int × Int × Int × Int × Int × Int × List Int × Int × Int × Bool × Int × Int × ByteArray × (List (Int × (Int × Int))) × Int))) (k : Nat) : Unit → Option (Bool)
  | () =>
  (spec_DeviceNew k ()).bind fun v0 =>
  (impl_DeviceNew k ()).bind fun v1 =>
  (laws_eqDevice k (v1, v0)).bind fun v2 =>
  if v2 = true then
   (laws_markDevice k (v1, 1)).bind fun v3 =>
   (laws_heldDevice k (v1, 1)).bind fun v4 =>
   if v4 < 0 then
    some false
   else
    if v4 = v3 then
     (impl_DeviceNew k ()).bind fun v5 =>
     (laws_eqDevice k (v5, v0)).bind fun v6 =>
     if v6 = true then
      (laws_heldDevice k (v1, 1)).bind fun v7 =>
      if v7 < 0 then
       some false
      else
       if v7 = v3 then
        some true
       else
        some false
     else
      some false
    else
     some false
  else
   some false
noncomputable def g_laws_FnExactDeviceNew : Unit → Option (Bool) := laws_FnExactDeviceNew_ (fun _ => g_impl_DeviceNew) (fun _ => g_laws_eqDevice) (fun _ => g_laws_heldDevice) (fun _ => g_laws_markDevice) (fun _ => g_spec_DeviceNew) 0
theorem e_laws_FnExactDeviceNew : ∀ x b, g_laws_FnExactDeviceNew x = some b → ∃ k, laws_FnExactDeviceNew_ (fun _ => g_impl_DeviceNew) (fun _ => g_laws_eqDevice) (fun _ => g_laws_heldDevice) (fun _ => g_laws_markDevice) (fun _ => g_spec_DeviceNew) k x = some b := fun x b h => ⟨0, h⟩
end Go.Sx.T
