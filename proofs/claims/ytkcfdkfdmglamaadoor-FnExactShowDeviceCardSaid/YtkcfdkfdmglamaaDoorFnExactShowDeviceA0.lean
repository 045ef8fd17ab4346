/- Functions of the program as functions of Lean, and that the program keeps to them. -/
import Derived.Test.YtkcfdkfdmglamaaDoorSz3
set_option maxRecDepth 100000
set_option linter.unusedVariables false
set_option linter.unusedSimpArgs false
namespace Go.Proofs
end Go.Proofs
namespace Go.Sx.T
open Go Go.Sx Go.Proofs Go.RowKit
/- strconv_Itoa -/
def con_strconv_Itoa (f : Nat → Int → Option (ByteArray)) : Con := ⟨[.c (.int .i64)], 1, [.v false [.str]], f⟩
noncomputable def g_strconv_Itoa : Int → Option (ByteArray) := itoaF
theorem e_strconv_Itoa : True := trivial
/- strings_Join -/
def con_strings_Join (f : Nat → List ByteArray × ByteArray → Option (ByteArray)) : Con := ⟨[.c (.sl .str), .c .str], 1, [.v false [.str]], f⟩
noncomputable def g_strings_Join : List ByteArray × ByteArray → Option (ByteArray) := fun x => joinF x.1 x.2
theorem e_strings_Join : True := trivial
/- laws_eqTick -/
def con_laws_eqTick (f : Nat → (Int × Int × Int) × (Int × Int × Int) → Option (Bool)) : Con := ⟨[.agg [.int .i64, .int .i64, .int .i64], .agg [.int .i64, .int .i64, .int .i64]], 1, [.v false [.bool]], f⟩
def laws_eqTick_ (k : Nat) : (Int × Int × Int) × (Int × Int × Int) → Option (Bool)
  | ((a0, a1, a2), (a3, a4, a5)) =>
  if a0 = a3 then
   if a1 = a4 then
    if a2 = a5 then
     some true
    else
     some false
   else
    some false
  else
   some false
noncomputable def g_laws_eqTick : (Int × Int × Int) × (Int × Int × Int) → Option (Bool) := laws_eqTick_  0
theorem e_laws_eqTick : ∀ x b, g_laws_eqTick x = some b → ∃ k, laws_eqTick_  k x = some b := fun x b h => ⟨0, h⟩
/- laws_eqTickS -/
def con_laws_eqTickS (f : Nat → ((List (Int × (Int × Int)))) × ((List (Int × (Int × Int)))) → Option (Bool)) : Con := ⟨[.c (.sl (.pair (.int .i64) (.pair (.int .i64) (.int .i64)))), .c (.sl (.pair (.int .i64) (.pair (.int .i64) (.int .i64))))], 1, [.v false [.bool]], f⟩
def laws_eqTickS_L4 (laws_eqTick : Nat → (Int × Int × Int) × (Int × Int × Int) → Option (Bool)) : Nat → Int × (List (Int × (Int × Int))) × (List (Int × (Int × Int))) × Unit → Option (Bool)
  | 0, _ => none
  | k + 1, (b0, b1, b2, ()) =>
    if b0 < ((List.length b1 : Nat) : Int) then
     if 0 ≤ b0 then
      if b0 < ((List.length b1 : Nat) : Int) then
       if 0 ≤ b0 then
        if b0 < ((List.length b2 : Nat) : Int) then (laws_eqTick k ((List.getD b1 (Int.toNat b0) (0, (0, 0))), (List.getD b2 (Int.toNat b0) (0, (0, 0))))).bind fun v0 =>
         if v0 = true then
          laws_eqTickS_L4 laws_eqTick k ((wrap64 (b0 + 1)), b1, b2, ())
         else
          some false else none
       else
        none
      else
       none
     else
      none
    else
     some true
def laws_eqTickS_ (laws_eqTick : Nat → (Int × Int × Int) × (Int × Int × Int) → Option (Bool)) (k : Nat) : ((List (Int × (Int × Int)))) × ((List (Int × (Int × Int)))) → Option (Bool)
  | (a0, a1) =>
  if ((List.length a0 : Nat) : Int) = ((List.length a1 : Nat) : Int) then
   laws_eqTickS_L4 laws_eqTick k (0, a0, a1, ())
  else
   some false
noncomputable def g_laws_eqTickS : ((List (Int × (Int × Int)))) × ((List (Int × (Int × Int)))) → Option (Bool) := evG (laws_eqTickS_ (fun _ => g_laws_eqTick))
theorem e_laws_eqTickS : ∀ x b, g_laws_eqTickS x = some b → ∃ k, laws_eqTickS_ (fun _ => g_laws_eqTick) k x = some b := evG_e _
/- laws_eqMenu -/
def con_laws_eqMenu (f : Nat → (Int × Bool × Int × Int × ByteArray) × (Int × Bool × Int × Int × ByteArray) → Option (Bool)) : Con := ⟨[.agg [.int .i64, .bool, .int .i64, .int .i64, .str], .agg [.int .i64, .bool, .int .i64, .int .i64, .str]], 1, [.v false [.bool]], f⟩
def laws_eqMenu_ (k : Nat) : (Int × Bool × Int × Int × ByteArray) × (Int × Bool × Int × Int × ByteArray) → Option (Bool)
  | ((a0, a1, a2, a3, a4), (a5, a6, a7, a8, a9)) =>
  if a0 = a5 then
   if (a1 == a6) = true then
    if a2 = a7 then
     if a3 = a8 then
      if a4 = a9 then
       some true
      else
       some false
     else
      some false
    else
     some false
   else
    some false
  else
   some false
noncomputable def g_laws_eqMenu : (Int × Bool × Int × Int × ByteArray) × (Int × Bool × Int × Int × ByteArray) → Option (Bool) := laws_eqMenu_  0
theorem e_laws_eqMenu : ∀ x b, g_laws_eqMenu x = some b → ∃ k, laws_eqMenu_  k x = some b := fun x b h => ⟨0, h⟩
/- laws_eqIntS -/
def con_laws_eqIntS (f : Nat → List Int × List Int → Option (Bool)) : Con := ⟨[.c (.sl (.int .i64)), .c (.sl (.int .i64))], 1, [.v false [.bool]], f⟩
def laws_eqIntS_L4 : Nat → Int × List Int × List Int × Unit → Option (Bool)
  | 0, _ => none
  | k + 1, (b0, b1, b2, ()) =>
    if b0 < ((List.length b1 : Nat) : Int) then
     if 0 ≤ b0 then
      if b0 < ((List.length b1 : Nat) : Int) then
       if 0 ≤ b0 then
        if b0 < ((List.length b2 : Nat) : Int) then
         if (List.getD b1 (Int.toNat b0) 0) = (List.getD b2 (Int.toNat b0) 0) then
          laws_eqIntS_L4 k ((wrap64 (b0 + 1)), b1, b2, ())
         else
          some false
        else
         none
       else
        none
      else
       none
     else
      none
    else
     some true
def laws_eqIntS_ (k : Nat) : List Int × List Int → Option (Bool)
  | (a0, a1) =>
  if ((List.length a0 : Nat) : Int) = ((List.length a1 : Nat) : Int) then
   laws_eqIntS_L4 k (0, a0, a1, ())
  else
   some false
noncomputable def g_laws_eqIntS : List Int × List Int → Option (Bool) := evG (laws_eqIntS_ )
theorem e_laws_eqIntS : ∀ x b, g_laws_eqIntS x = some b → ∃ k, laws_eqIntS_  k x = some b := evG_e _
/- laws_eqGuard -/
def con_laws_eqGuard (f : Nat → (List Int × Int) × (List Int × Int) → Option (Bool)) : Con := ⟨[.agg [.sl (.int .i64), .int .i64], .agg [.sl (.int .i64), .int .i64]], 1, [.v false [.bool]], f⟩
def laws_eqGuard_ (laws_eqIntS : Nat → List Int × List Int → Option (Bool)) (k : Nat) : (List Int × Int) × (List Int × Int) → Option (Bool)
  | ((a0, a1), (a2, a3)) =>
  (laws_eqIntS k (a0, a2)).bind fun v0 =>
  if v0 = true then
   if a1 = a3 then
    some true
   else
    some false
  else
   some false
noncomputable def g_laws_eqGuard : (List Int × Int) × (List Int × Int) → Option (Bool) := laws_eqGuard_ (fun _ => g_laws_eqIntS) 0
theorem e_laws_eqGuard : ∀ x b, g_laws_eqGuard x = some b → ∃ k, laws_eqGuard_ (fun _ => g_laws_eqIntS) k x = some b := fun x b h => ⟨0, h⟩
/- laws_eqRate -/
def con_laws_eqRate (f : Nat → (Int × Int × Int) × (Int × Int × Int) → Option (Bool)) : Con := ⟨[.agg [.int .i64, .int .i64, .int .i64], .agg [.int .i64, .int .i64, .int .i64]], 1, [.v false [.bool]], f⟩
def laws_eqRate_ (k : Nat) : (Int × Int × Int) × (Int × Int × Int) → Option (Bool)
  | ((a0, a1, a2), (a3, a4, a5)) =>
  if a0 = a3 then
   if a1 = a4 then
    if a2 = a5 then
     some true
    else
     some false
   else
    some false
  else
   some false
noncomputable def g_laws_eqRate : (Int × Int × Int) × (Int × Int × Int) → Option (Bool) := laws_eqRate_  0
theorem e_laws_eqRate : ∀ x b, g_laws_eqRate x = some b → ∃ k, laws_eqRate_  k x = some b := fun x b h => ⟨0, h⟩
/- laws_eqPump -/
def con_laws_eqPump (f : Nat → (Int × Int × Int × Int × Int × Int × Int × Int) × (Int × Int × Int × Int × Int × Int × Int × Int) → Option (Bool)) : Con := ⟨[.agg [.int .i64, .int .i64, .int .i64, .int .i64, .int .i64, .int .i64, .int .i64, .int .i64], .agg [.int .i64, .int .i64, .int .i64, .int .i64, .int .i64, .int .i64, .int .i64, .int .i64]], 1, [.v false [.bool]], f⟩
def laws_eqPump_ (laws_eqRate : Nat → (Int × Int × Int) × (Int × Int × Int) → Option (Bool)) (k : Nat) : (Int × Int × Int × Int × Int × Int × Int × Int) × (Int × Int × Int × Int × Int × Int × Int × Int) → Option (Bool)
  | ((a0, a1, a2, a3, a4, a5, a6, a7), (a8, a9, a10, a11, a12, a13, a14, a15)) =>
  if a0 = a8 then
   (laws_eqRate k ((a1, (a2, a3)), (a9, (a10, a11)))).bind fun v0 =>
   if v0 = true then
    if a4 = a12 then
     if a5 = a13 then
      if a6 = a14 then
       if a7 = a15 then
        some true
       else
        some false
      else
       some false
     else
      some false
    else
     some false
   else
    some false
  else
   some false
noncomputable def g_laws_eqPump : (Int × Int × Int × Int × Int × Int × Int × Int) × (Int × Int × Int × Int × Int × Int × Int × Int) → Option (Bool) := laws_eqPump_ (fun _ => g_laws_eqRate) 0
theorem e_laws_eqPump : ∀ x b, g_laws_eqPump x = some b → ∃ k, laws_eqPump_ (fun _ => g_laws_eqRate) k x = some b := fun x b h => ⟨0, h⟩
/- laws_eqDevice -/
def con_laws_eqDevice (f : Nat → (Int × Int × Int × Int × Int × Int × Int × Int × List Int × Int × Int × Bool × Int × Int × ByteArray × (List (Int × (Int × Int))) × Int) × (Int × Int × Int × Int × Int × Int × Int × Int × List Int × Int × Int × Bool × Int × Int × ByteArray × (List (Int × (Int × Int))) × Int) → Option (Bool)) : Con := ⟨[.agg [.int .i64, .int .i64, .int .i64, .int .i64, .int .i64, .int .i64, .int .i64, .int .i64, .sl (.int .i64), .int .i64, .int .i64, .bool, .int .i64, .int .i64, .str, .sl (.pair (.int .i64) (.pair (.int .i64) (.int .i64))), .int .i64], .agg [.int .i64, .int .i64, .int .i64, .int .i64, .int .i64, .int .i64, .int .i64, .int .i64, .sl (.int .i64), .int .i64, .int .i64, .bool, .int .i64, .int .i64, .str, .sl (.pair (.int .i64) (.pair (.int .i64) (.int .i64))), .int .i64]], 1, [.v false [.bool]], f⟩
def laws_eqDevice_ (laws_eqGuard : Nat → (List Int × Int) × (List Int × Int) → Option (Bool)) (laws_eqMenu : Nat → (Int × Bool × Int × Int × ByteArray) × (Int × Bool × Int × Int × ByteArray) → Option (Bool)) (laws_eqPump : Nat → (Int × Int × Int × Int × Int × Int × Int × Int) × (Int × Int × Int × Int × Int × Int × Int × Int) → Option (Bool)) (laws_eqTickS : Nat → ((List (Int × (Int × Int)))) × ((List (Int × (Int × Int)))) → Option (Bool)) (k : Nat) : (Int × Int × Int × Int × Int × Int × Int × Int × List Int × Int × Int × Bool × Int × Int × ByteArray × (List (Int × (Int × Int))) × Int) × (Int × Int × Int × Int × Int × Int × Int × Int × List Int × Int × Int × Bool × Int × Int × ByteArray × (List (Int × (Int × Int))) × Int) → Option (Bool)
  | ((a0, a1, a2, a3, a4, a5, a6, a7, a8, a9, a10, a11, a12, a13, a14, a15, a16), (a17, a18, a19, a20, a21, a22, a23, a24, a25, a26, a27, a28, a29, a30, a31, a32, a33)) =>
  (laws_eqPump k ((a0, (a1, (a2, (a3, (a4, (a5, (a6, a7))))))), (a17, (a18, (a19, (a20, (a21, (a22, (a23, a24))))))))).bind fun v0 =>
  if v0 = true then
   (laws_eqGuard k ((a8, a9), (a25, a26))).bind fun v1 =>
   if v1 = true then
    (laws_eqMenu k ((a10, (a11, (a12, (a13, a14)))), (a27, (a28, (a29, (a30, a31)))))).bind fun v2 =>
    if v2 = true then
     (laws_eqTickS k (a15, a32)).bind fun v3 =>
     if v3 = true then
      if a16 = a33 then
       some true
      else
       some false
     else
      some false
    else
     some false
   else
    some false
  else
   some false
noncomputable def g_laws_eqDevice : (Int × Int × Int × Int × Int × Int × Int × Int × List Int × Int × Int × Bool × Int × Int × ByteArray × (List (Int × (Int × Int))) × Int) × (Int × Int × Int × Int × Int × Int × Int × Int × List Int × Int × Int × Bool × Int × Int × ByteArray × (List (Int × (Int × Int))) × Int) → Option (Bool) := laws_eqDevice_ (fun _ => g_laws_eqGuard) (fun _ => g_laws_eqMenu) (fun _ => g_laws_eqPump) (fun _ => g_laws_eqTickS) 0
theorem e_laws_eqDevice : ∀ x b, g_laws_eqDevice x = some b → ∃ k, laws_eqDevice_ (fun _ => g_laws_eqGuard) (fun _ => g_laws_eqMenu) (fun _ => g_laws_eqPump) (fun _ => g_laws_eqTickS) k x = some b := fun x b h => ⟨0, h⟩
/- laws_toTick -/
def con_laws_toTick (f : Nat → (Int × Int × Int) → Option ((Int × Int × Int))) : Con := ⟨[.agg [.int .i64, .int .i64, .int .i64]], 1, [.v true [.int .i64, .int .i64, .int .i64]], f⟩
def laws_toTick_ (k : Nat) : (Int × Int × Int) → Option ((Int × Int × Int))
  | (a0, a1, a2) =>
  some (a0, (a1, a2))
noncomputable def g_laws_toTick : (Int × Int × Int) → Option ((Int × Int × Int)) := laws_toTick_  0
theorem e_laws_toTick : ∀ x b, g_laws_toTick x = some b → ∃ k, laws_toTick_  k x = some b := fun x b h => ⟨0, h⟩
/- laws_toTickS -/
def con_laws_toTickS (f : Nat → ((List (Int × (Int × Int)))) → Option (((List (Int × (Int × Int)))))) : Con := ⟨[.c (.sl (.pair (.int .i64) (.pair (.int .i64) (.int .i64))))], 1, [.v false [.own (.pair (.int .i64) (.pair (.int .i64) (.int .i64))) 73]], f⟩
def laws_toTickS_L3 (laws_toTick : Nat → (Int × Int × Int) → Option ((Int × Int × Int))) : Nat → Int × (List (Int × (Int × Int))) × (List (Int × (Int × Int))) × Unit → Option (((List (Int × (Int × Int)))))
  | 0, _ => none
  | k + 1, (b0, b1, b2, ()) =>
    if b0 < ((List.length b1 : Nat) : Int) then
     if 0 ≤ b0 then
      if b0 < ((List.length b1 : Nat) : Int) then (laws_toTick k (List.getD b1 (Int.toNat b0) (0, (0, 0)))).bind fun v0 =>
       if 0 ≤ b0 then
        if b0 < ((List.length b2 : Nat) : Int) then laws_toTickS_L3 laws_toTick k ((wrap64 (b0 + 1)), b1, (List.set b2 (Int.toNat b0) v0), ()) else none
       else
        none else none
     else
      none
    else
     some b2
def laws_toTickS_ (laws_toTick : Nat → (Int × Int × Int) → Option ((Int × Int × Int))) (k : Nat) : ((List (Int × (Int × Int)))) → Option (((List (Int × (Int × Int)))))
  | a0 =>
  if ((List.length a0 : Nat) : Int) = ((List.length a0 : Nat) : Int) then
   if 0 ≤ ((List.length a0 : Nat) : Int) then
    if (((List.length a0 : Nat) : Int) * ((24 : Nat) : Int)) ≤ 140737488355328 then laws_toTickS_L3 laws_toTick k (0, a0, (List.replicate (Int.toNat ((List.length a0 : Nat) : Int)) (0, (0, 0))), ()) else none
   else
    none
  else
   none
noncomputable def g_laws_toTickS : ((List (Int × (Int × Int)))) → Option (((List (Int × (Int × Int))))) := evG (laws_toTickS_ (fun _ => g_laws_toTick))
theorem e_laws_toTickS : ∀ x b, g_laws_toTickS x = some b → ∃ k, laws_toTickS_ (fun _ => g_laws_toTick) k x = some b := evG_e _
/- laws_toMenu -/
def con_laws_toMenu (f : Nat → (Int × Bool × Int × Int × ByteArray) → Option ((Int × Bool × Int × Int × ByteArray))) : Con := ⟨[.agg [.int .i64, .bool, .int .i64, .int .i64, .str]], 1, [.v true [.int .i64, .bool, .int .i64, .int .i64, .str]], f⟩
def laws_toMenu_ (k : Nat) : (Int × Bool × Int × Int × ByteArray) → Option ((Int × Bool × Int × Int × ByteArray))
  | (a0, a1, a2, a3, a4) =>
  some (a0, (a1, (a2, (a3, a4))))
noncomputable def g_laws_toMenu : (Int × Bool × Int × Int × ByteArray) → Option ((Int × Bool × Int × Int × ByteArray)) := laws_toMenu_  0
theorem e_laws_toMenu : ∀ x b, g_laws_toMenu x = some b → ∃ k, laws_toMenu_  k x = some b := fun x b h => ⟨0, h⟩
/- laws_toIntS -/
def con_laws_toIntS (f : Nat → List Int → Option (List Int)) : Con := ⟨[.c (.sl (.int .i64))], 1, [.v false [.own (.int .i64) 3]], f⟩
def laws_toIntS_L3 : Nat → Int × List Int × List Int × Unit → Option (List Int)
  | 0, _ => none
  | k + 1, (b0, b1, b2, ()) =>
    if b0 < ((List.length b1 : Nat) : Int) then
     if 0 ≤ b0 then
      if b0 < ((List.length b1 : Nat) : Int) then
       if 0 ≤ b0 then
        if b0 < ((List.length b2 : Nat) : Int) then laws_toIntS_L3 k ((wrap64 (b0 + 1)), b1, (List.set b2 (Int.toNat b0) (List.getD b1 (Int.toNat b0) 0)), ()) else none
       else
        none
      else
       none
     else
      none
    else
     some b2
def laws_toIntS_ (k : Nat) : List Int → Option (List Int)
  | a0 =>
  if ((List.length a0 : Nat) : Int) = ((List.length a0 : Nat) : Int) then
   if 0 ≤ ((List.length a0 : Nat) : Int) then
    if (((List.length a0 : Nat) : Int) * ((8 : Nat) : Int)) ≤ 140737488355328 then laws_toIntS_L3 k (0, a0, (List.replicate (Int.toNat ((List.length a0 : Nat) : Int)) 0), ()) else none
   else
    none
  else
   none
noncomputable def g_laws_toIntS : List Int → Option (List Int) := evG (laws_toIntS_ )
theorem e_laws_toIntS : ∀ x b, g_laws_toIntS x = some b → ∃ k, laws_toIntS_  k x = some b := evG_e _
/- laws_toGuard -/
def con_laws_toGuard (f : Nat → (List Int × Int) → Option ((List Int × Int))) : Con := ⟨[.agg [.sl (.int .i64), .int .i64]], 1, [.v true [.own (.int .i64) 3, .int .i64]], f⟩
def laws_toGuard_ (laws_toIntS : Nat → List Int → Option (List Int)) (k : Nat) : (List Int × Int) → Option ((List Int × Int))
  | (a0, a1) =>
  (laws_toIntS k a0).bind fun v0 =>
  some (v0, a1)
noncomputable def g_laws_toGuard : (List Int × Int) → Option ((List Int × Int)) := laws_toGuard_ (fun _ => g_laws_toIntS) 0
theorem e_laws_toGuard : ∀ x b, g_laws_toGuard x = some b → ∃ k, laws_toGuard_ (fun _ => g_laws_toIntS) k x = some b := fun x b h => ⟨0, h⟩
/- laws_toRate -/
def con_laws_toRate (f : Nat → (Int × Int × Int) → Option ((Int × Int × Int))) : Con := ⟨[.agg [.int .i64, .int .i64, .int .i64]], 1, [.v true [.int .i64, .int .i64, .int .i64]], f⟩
def laws_toRate_ (k : Nat) : (Int × Int × Int) → Option ((Int × Int × Int))
  | (a0, a1, a2) =>
  some (a0, (a1, a2))
noncomputable def g_laws_toRate : (Int × Int × Int) → Option ((Int × Int × Int)) := laws_toRate_  0
theorem e_laws_toRate : ∀ x b, g_laws_toRate x = some b → ∃ k, laws_toRate_  k x = some b := fun x b h => ⟨0, h⟩
/- laws_toPump -/
def con_laws_toPump (f : Nat → (Int × Int × Int × Int × Int × Int × Int × Int) → Option ((Int × Int × Int × Int × Int × Int × Int × Int))) : Con := ⟨[.agg [.int .i64, .int .i64, .int .i64, .int .i64, .int .i64, .int .i64, .int .i64, .int .i64]], 1, [.v true [.int .i64, .int .i64, .int .i64, .int .i64, .int .i64, .int .i64, .int .i64, .int .i64]], f⟩
def laws_toPump_ (laws_toRate : Nat → (Int × Int × Int) → Option ((Int × Int × Int))) (k : Nat) : (Int × Int × Int × Int × Int × Int × Int × Int) → Option ((Int × Int × Int × Int × Int × Int × Int × Int))
  | (a0, a1, a2, a3, a4, a5, a6, a7) =>
  (laws_toRate k (a1, (a2, a3))).bind fun v0 =>
  some (a0, (v0.1, (v0.2.1, (v0.2.2, (a4, (a5, (a6, a7)))))))
noncomputable def g_laws_toPump : (Int × Int × Int × Int × Int × Int × Int × Int) → Option ((Int × Int × Int × Int × Int × Int × Int × Int)) := laws_toPump_ (fun _ => g_laws_toRate) 0
theorem e_laws_toPump : ∀ x b, g_laws_toPump x = some b → ∃ k, laws_toPump_ (fun _ => g_laws_toRate) k x = some b := fun x b h => ⟨0, h⟩
/- laws_toDevice -/
def con_laws_toDevice (f : Nat → (Int × Int × Int × Int × Int × Int × Int × Int × List Int × Int × Int × Bool × Int × Int × ByteArray × (List (Int × (Int × Int))) × Int) → Option ((Int × Int × Int × Int × Int × Int × Int × Int × List Int × Int × Int × Bool × Int × Int × ByteArray × (List (Int × (Int × Int))) × Int))) : Con := ⟨[.agg [.int .i64, .int .i64, .int .i64, .int .i64, .int .i64, .int .i64, .int .i64, .int .i64, .sl (.int .i64), .int .i64, .int .i64, .bool, .int .i64, .int .i64, .str, .sl (.pair (.int .i64) (.pair (.int .i64) (.int .i64))), .int .i64]], 1, [.v true [.int .i64, .int .i64, .int .i64, .int .i64, .int .i64, .int .i64, .int .i64, .int .i64, .own (.int .i64) 3, .int .i64, .int .i64, .bool, .int .i64, .int .i64, .str, .own (.pair (.int .i64) (.pair (.int .i64) (.int .i64))) 73, .int .i64]], f⟩
def laws_toDevice_ (laws_toGuard : Nat → (List Int × Int) → Option ((List Int × Int))) (laws_toMenu : Nat → (Int × Bool × Int × Int × ByteArray) → Option ((Int × Bool × Int × Int × ByteArray))) (laws_toPump : Nat → (Int × Int × Int × Int × Int × Int × Int × Int) → Option ((Int × Int × Int × Int × Int × Int × Int × Int))) (laws_toTickS : Nat → ((List (Int × (Int × Int)))) → Option (((List (Int × (Int × Int)))))) (k : Nat) : (Int × Int × Int × Int × Int × Int × Int × Int × List Int × Int × Int × Bool × Int × Int × ByteArray × (List (Int × (Int × Int))) × Int) → Option ((Int × Int × Int × Int × Int × Int × Int × Int × List Int × Int × Int × Bool × Int × Int × ByteArray × (List (Int × (Int × Int))) × Int))
  | (a0, a1, a2, a3, a4, a5, a6, a7, a8, a9, a10, a11, a12, a13, a14, a15, a16) =>
  (laws_toPump k (a0, (a1, (a2, (a3, (a4, (a5, (a6, a7)))))))).bind fun v0 =>
  (laws_toGuard k (a8, a9)).bind fun v1 =>
  (laws_toMenu k (a10, (a11, (a12, (a13, a14))))).bind fun v2 =>
  (laws_toTickS k a15).bind fun v3 =>
  some (v0.1, (v0.2.1, (v0.2.2.1, (v0.2.2.2.1, (v0.2.2.2.2.1, (v0.2.2.2.2.2.1, (v0.2.2.2.2.2.2.1, (v0.2.2.2.2.2.2.2, (v1.1, (v1.2, (v2.1, (v2.2.1, (v2.2.2.1, (v2.2.2.2.1, (v2.2.2.2.2, (v3, a16))))))))))))))))
noncomputable def g_laws_toDevice : (Int × Int × Int × Int × Int × Int × Int × Int × List Int × Int × Int × Bool × Int × Int × ByteArray × (List (Int × (Int × Int))) × Int) → Option ((Int × Int × Int × Int × Int × Int × Int × Int × List Int × Int × Int × Bool × Int × Int × ByteArray × (List (Int × (Int × Int))) × Int)) := laws_toDevice_ (fun _ => g_laws_toGuard) (fun _ => g_laws_toMenu) (fun _ => g_laws_toPump) (fun _ => g_laws_toTickS) 0
theorem e_laws_toDevice : ∀ x b, g_laws_toDevice x = some b → ∃ k, laws_toDevice_ (fun _ => g_laws_toGuard) (fun _ => g_laws_toMenu) (fun _ => g_laws_toPump) (fun _ => g_laws_toTickS) k x = some b := fun x b h => ⟨0, h⟩
/- impl_within -/
def con_impl_within (f : Nat → Int × Int × Int → Option (Bool)) : Con := ⟨[.c (.int .i64), .c (.int .i64), .c (.int .i64)], 1, [.v false [.bool]], f⟩
def impl_within_ (k : Nat) : Int × Int × Int → Option (Bool)
  | (a0, a1, a2) =>
  if a1 ≤ a0 then
   some (decide (a0 ≤ a2))
  else
   some false
noncomputable def g_impl_within : Int × Int × Int → Option (Bool) := impl_within_  0
theorem e_impl_within : ∀ x b, g_impl_within x = some b → ∃ k, impl_within_  k x = some b := fun x b h => ⟨0, h⟩
/- impl_SenseOk -/
def con_impl_SenseOk (f : Nat → Int → Option (Bool)) : Con := ⟨[.c (.int .i64)], 1, [.v false [.bool]], f⟩
def impl_SenseOk_ (impl_within : Nat → Int × Int × Int → Option (Bool)) (k : Nat) : Int → Option (Bool)
  | a0 =>
  (impl_within k (a0, (0, 15))).bind fun v0 =>
  some v0
noncomputable def g_impl_SenseOk : Int → Option (Bool) := impl_SenseOk_ (fun _ => g_impl_within) 0
theorem e_impl_SenseOk : ∀ x b, g_impl_SenseOk x = some b → ∃ k, impl_SenseOk_ (fun _ => g_impl_within) k x = some b := fun x b h => ⟨0, h⟩
/- impl_SenseNames -/
def con_impl_SenseNames (f : Nat → Int → Option (ByteArray)) : Con := ⟨[.c (.int .i64)], 1, [.v false [.str]], f⟩
def impl_SenseNames_L7 (impl_SenseOk : Nat → Int → Option (Bool)) (strings_Join : Nat → List ByteArray × ByteArray → Option (ByteArray)) : Nat → Int × Int × Int × List ByteArray × List ByteArray × Unit → Option (ByteArray)
  | 0, _ => none
  | k + 1, (b0, b1, b2, b3, b4, ()) =>
    if b2 < b1 then
     if 0 ≤ b2 then
      if b2 < ((List.length b4 : Nat) : Int) then
       if 0 ≤ b2 then
        if (iand .i64 (Int.fdiv b0 (2 ^ (min (Int.toNat b2) (IntKind.bits .i64)))) 1) = 1 then
         if (((List.length b3 + List.length [(List.getD b4 (Int.toNat b2) (⟨#[]⟩ : ByteArray))] : Nat) : Int) * ((16 : Nat) : Int)) ≤ 140737488355328 then impl_SenseNames_L7 impl_SenseOk strings_Join k (b0, b1, (wrap64 (b2 + 1)), (b3 ++ [(List.getD b4 (Int.toNat b2) (⟨#[]⟩ : ByteArray))]), b4, ()) else none
        else
         impl_SenseNames_L7 impl_SenseOk strings_Join k (b0, b1, (wrap64 (b2 + 1)), b3, b4, ())
       else
        none
      else
       none
     else
      none
    else
     (strings_Join k (b3, (⟨#[44]⟩ : ByteArray))).bind fun v0 =>
     some v0
def impl_SenseNames_ (impl_SenseOk : Nat → Int → Option (Bool)) (strings_Join : Nat → List ByteArray × ByteArray → Option (ByteArray)) (k : Nat) : Int → Option (ByteArray)
  | a0 =>
  (impl_SenseOk k a0).bind fun v0 =>
  if v0 = true then
   if a0 = 0 then
    some (⟨#[110, 111, 110, 101]⟩ : ByteArray)
   else
    impl_SenseNames_L7 impl_SenseOk strings_Join k (a0, ((List.length [(⟨#[98, 108, 111, 99, 107]⟩ : ByteArray), (⟨#[97, 105, 114]⟩ : ByteArray), (⟨#[100, 111, 111, 114]⟩ : ByteArray), (⟨#[112, 111, 119, 101, 114]⟩ : ByteArray)] : Nat) : Int), 0, ([] : List ByteArray), [(⟨#[98, 108, 111, 99, 107]⟩ : ByteArray), (⟨#[97, 105, 114]⟩ : ByteArray), (⟨#[100, 111, 111, 114]⟩ : ByteArray), (⟨#[112, 111, 119, 101, 114]⟩ : ByteArray)], ())
  else
   some (⟨#[]⟩ : ByteArray)
noncomputable def g_impl_SenseNames : Int → Option (ByteArray) := evG (impl_SenseNames_ (fun _ => g_impl_SenseOk) (fun _ => g_strings_Join))
theorem e_impl_SenseNames : ∀ x b, g_impl_SenseNames x = some b → ∃ k, impl_SenseNames_ (fun _ => g_impl_SenseOk) (fun _ => g_strings_Join) k x = some b := evG_e _
/- impl_Decimal -/
def con_impl_Decimal (f : Nat → Int → Option (ByteArray)) : Con := ⟨[.c (.int .i64)], 1, [.v false [.str]], f⟩
def impl_Decimal_ (strconv_Itoa : Nat → Int → Option (ByteArray)) (k : Nat) : Int → Option (ByteArray)
  | a0 =>
  (strconv_Itoa k a0).bind fun v0 =>
  some v0
noncomputable def g_impl_Decimal : Int → Option (ByteArray) := impl_Decimal_ (fun _ => g_strconv_Itoa) 0
theorem e_impl_Decimal : ∀ x b, g_impl_Decimal x = some b → ∃ k, impl_Decimal_ (fun _ => g_strconv_Itoa) k x = some b := fun x b h => ⟨0, h⟩
/- impl_isNumber -/
def con_impl_isNumber (f : Nat → Int → Option (Bool)) : Con := ⟨[.c (.int .i64)], 1, [.v false [.bool]], f⟩
def impl_isNumber_ (impl_within : Nat → Int × Int × Int → Option (Bool)) (k : Nat) : Int → Option (Bool)
  | a0 =>
  (impl_within k (a0, (0, 1000000000))).bind fun v0 =>
  some v0
noncomputable def g_impl_isNumber : Int → Option (Bool) := impl_isNumber_ (fun _ => g_impl_within) 0
theorem e_impl_isNumber : ∀ x b, g_impl_isNumber x = some b → ∃ k, impl_isNumber_ (fun _ => g_impl_within) k x = some b := fun x b h => ⟨0, h⟩
/- impl_MenuNew -/
def con_impl_MenuNew (f : Nat → Unit → Option ((Int × Bool × Int × Int × ByteArray))) : Con := ⟨[], 1, [.v true [.int .i64, .bool, .int .i64, .int .i64, .str]], f⟩
def impl_MenuNew_ (k : Nat) : Unit → Option ((Int × Bool × Int × Int × ByteArray))
  | () =>
  some (1, (false, (0, (0, (⟨#[]⟩ : ByteArray)))))
noncomputable def g_impl_MenuNew : Unit → Option ((Int × Bool × Int × Int × ByteArray)) := impl_MenuNew_  0
theorem e_impl_MenuNew : ∀ x b, g_impl_MenuNew x = some b → ∃ k, impl_MenuNew_  k x = some b := fun x b h => ⟨0, h⟩
/- impl_MenuOk -/
def con_impl_MenuOk (f : Nat → (Int × Bool × Int × Int × ByteArray) → Option (Bool)) : Con := ⟨[.agg [.int .i64, .bool, .int .i64, .int .i64, .str]], 1, [.v false [.bool]], f⟩
def impl_MenuOk_L2 (impl_MenuNew : Nat → Unit → Option ((Int × Bool × Int × Int × ByteArray))) (impl_within : Nat → Int × Int × Int → Option (Bool)) : Nat → Int × Int × Int × Bool × Int × Int × ByteArray × Unit → Option (Bool)
  | 0, _ => none
  | k + 1, (b0, b1, b2, b3, b4, b5, b6, ()) =>
    if b1 < b0 then
     if 0 ≤ b1 then
      if b1 < ((ByteArray.size b6 : Nat) : Int) then (impl_within k ((wrap64 (byt b6 b1)), (48, 57))).bind fun v0 =>
       if v0 = true then
        impl_MenuOk_L2 impl_MenuNew impl_within k (b0, (wrap64 (b1 + 1)), b2, b3, b4, b5, b6, ())
       else
        some false else none
     else
      none
    else
     if b2 = 1 then
      (impl_MenuNew k ()).bind fun v1 =>
      some ((decide (b2 = v1.1)) && ((b3 == v1.2.1) && ((decide (b4 = v1.2.2.1)) && ((decide (b5 = v1.2.2.2.1)) && (decide (b6 = v1.2.2.2.2))))))
     else
      (impl_within k (b2, (2, 4))).bind fun v2 =>
      if v2 = true then
       (impl_within k (b4, (0, 9999))).bind fun v3 =>
       if v3 = true then
        (impl_within k (b5, (0, 9999))).bind fun v4 =>
        if v4 = true then
         some (decide (((ByteArray.size b6 : Nat) : Int) ≤ 4))
        else
         some false
       else
        some false
      else
       some false
def impl_MenuOk_ (impl_MenuNew : Nat → Unit → Option ((Int × Bool × Int × Int × ByteArray))) (impl_within : Nat → Int × Int × Int → Option (Bool)) (k : Nat) : (Int × Bool × Int × Int × ByteArray) → Option (Bool)
  | (a0, a1, a2, a3, a4) =>
  impl_MenuOk_L2 impl_MenuNew impl_within k (((ByteArray.size a4 : Nat) : Int), 0, a0, a1, a2, a3, a4, ())
noncomputable def g_impl_MenuOk : (Int × Bool × Int × Int × ByteArray) → Option (Bool) := evG (impl_MenuOk_ (fun _ => g_impl_MenuNew) (fun _ => g_impl_within))
theorem e_impl_MenuOk : ∀ x b, g_impl_MenuOk x = some b → ∃ k, impl_MenuOk_ (fun _ => g_impl_MenuNew) (fun _ => g_impl_within) k x = some b := evG_e _
/- impl_RoomOf -/
def con_impl_RoomOf (f : Nat → (List Int × Int) → Option (Int)) : Con := ⟨[.agg [.sl (.int .i64), .int .i64]], 1, [.v false [.int .i64]], f⟩
def impl_RoomOf_L3 : Nat → Int × Int × Int × List Int × Unit → Option (Int)
  | 0, _ => none
  | k + 1, (b0, b1, b2, b3, ()) =>
    if b2 < b1 then
     if 0 ≤ b2 then
      if b2 < ((List.length b3 : Nat) : Int) then impl_RoomOf_L3 k ((wrap64 (b0 - (List.getD b3 (Int.toNat b2) 0))), b1, (wrap64 (b2 + 1)), b3, ()) else none
     else
      none
    else
     some b0
def impl_RoomOf_ (k : Nat) : (List Int × Int) → Option (Int)
  | (a0, a1) =>
  impl_RoomOf_L3 k (30, ((List.length a0 : Nat) : Int), 0, a0, ())
noncomputable def g_impl_RoomOf : (List Int × Int) → Option (Int) := evG (impl_RoomOf_ )
theorem e_impl_RoomOf : ∀ x b, g_impl_RoomOf x = some b → ∃ k, impl_RoomOf_  k x = some b := evG_e _
/- impl_GuardOk -/
def con_impl_GuardOk (f : Nat → (List Int × Int) → Option (Bool)) : Con := ⟨[.agg [.sl (.int .i64), .int .i64]], 1, [.v false [.bool]], f⟩
def impl_GuardOk_L2 (impl_RoomOf : Nat → (List Int × Int) → Option (Int)) (impl_SenseOk : Nat → Int → Option (Bool)) (impl_within : Nat → Int × Int × Int → Option (Bool)) : Nat → Int × Int × List Int × Int × Unit → Option (Bool)
  | 0, _ => none
  | k + 1, (b0, b1, b2, b3, ()) =>
    if b1 < b0 then
     if 0 ≤ b1 then
      if b1 < ((List.length b2 : Nat) : Int) then (impl_within k ((List.getD b2 (Int.toNat b1) 0), (0, 30))).bind fun v0 =>
       if v0 = true then
        impl_GuardOk_L2 impl_RoomOf impl_SenseOk impl_within k (b0, (wrap64 (b1 + 1)), b2, b3, ())
       else
        some false else none
     else
      none
    else
     if ((List.length b2 : Nat) : Int) ≤ 9 then
      (impl_RoomOf k (b2, b3)).bind fun v1 =>
      if 0 ≤ v1 then
       (impl_SenseOk k b3).bind fun v2 =>
       some v2
      else
       some false
     else
      some false
def impl_GuardOk_ (impl_RoomOf : Nat → (List Int × Int) → Option (Int)) (impl_SenseOk : Nat → Int → Option (Bool)) (impl_within : Nat → Int × Int × Int → Option (Bool)) (k : Nat) : (List Int × Int) → Option (Bool)
  | (a0, a1) =>
  impl_GuardOk_L2 impl_RoomOf impl_SenseOk impl_within k (((List.length a0 : Nat) : Int), 0, a0, a1, ())
noncomputable def g_impl_GuardOk : (List Int × Int) → Option (Bool) := evG (impl_GuardOk_ (fun _ => g_impl_RoomOf) (fun _ => g_impl_SenseOk) (fun _ => g_impl_within))
theorem e_impl_GuardOk : ∀ x b, g_impl_GuardOk x = some b → ∃ k, impl_GuardOk_ (fun _ => g_impl_RoomOf) (fun _ => g_impl_SenseOk) (fun _ => g_impl_within) k x = some b := evG_e _
/- impl_RateOk -/
def con_impl_RateOk (f : Nat → (Int × Int × Int) → Option (Bool)) : Con := ⟨[.agg [.int .i64, .int .i64, .int .i64]], 1, [.v false [.bool]], f⟩
def impl_RateOk_ (impl_within : Nat → Int × Int × Int → Option (Bool)) (k : Nat) : (Int × Int × Int) → Option (Bool)
  | (a0, a1, a2) =>
  (impl_within k (a0, (0, 1000000))).bind fun v0 =>
  if v0 = true then
   (impl_within k (a1, (1, 1000000))).bind fun v1 =>
   if v1 = true then
    (impl_within k (a2, (0, (wrap64 (a1 - 1))))).bind fun v2 =>
    some v2
   else
    some false
  else
   some false
noncomputable def g_impl_RateOk : (Int × Int × Int) → Option (Bool) := impl_RateOk_ (fun _ => g_impl_within) 0
theorem e_impl_RateOk : ∀ x b, g_impl_RateOk x = some b → ∃ k, impl_RateOk_ (fun _ => g_impl_within) k x = some b := fun x b h => ⟨0, h⟩
/- impl_PumpOk -/
def con_impl_PumpOk (f : Nat → (Int × Int × Int × Int × Int × Int × Int × Int) → Option (Bool)) : Con := ⟨[.agg [.int .i64, .int .i64, .int .i64, .int .i64, .int .i64, .int .i64, .int .i64, .int .i64]], 1, [.v false [.bool]], f⟩
def impl_PumpOk_ (impl_RateOk : Nat → (Int × Int × Int) → Option (Bool)) (impl_within : Nat → Int × Int × Int → Option (Bool)) (k : Nat) : (Int × Int × Int × Int × Int × Int × Int × Int) → Option (Bool)
  | (a0, a1, a2, a3, a4, a5, a6, a7) =>
  (impl_within k (a0, (0, 3))).bind fun v0 =>
  if v0 = true then
   (impl_RateOk k (a1, (a2, a3))).bind fun v1 =>
   if v1 = true then
    if (wrap64 (3 * a2)) < a1 then
     some false
    else
     (impl_within k (a7, (0, 2))).bind fun v2 =>
     if v2 = true then
      if a7 = 0 then
       if a0 = 1 then
        (impl_within k (a4, (0, 5000))).bind fun v3 =>
        if v3 = true then
         if (true == (decide (0 < a4))) = true then
          (impl_within k (a5, (0, 100))).bind fun v4 =>
          if v4 = true then
           (impl_within k (a6, (0, 1000000000000))).bind fun v5 =>
           some v5
          else
           some false
         else
          some false
        else
         some false
       else
        if a0 = 3 then
         (impl_within k (a4, (0, 5000))).bind fun v6 =>
         if v6 = true then
          if ((decide (a7 = 1)) == (decide (0 < a4))) = true then
           (impl_within k (a5, (0, 100))).bind fun v7 =>
           if v7 = true then
            (impl_within k (a6, (0, 1000000000000))).bind fun v8 =>
            some v8
           else
            some false
          else
           some false
         else
          some false
        else
         (impl_within k (a4, (0, 5000))).bind fun v9 =>
         if v9 = true then
          if (false == (decide (0 < a4))) = true then
           (impl_within k (a5, (0, 100))).bind fun v10 =>
           if v10 = true then
            (impl_within k (a6, (0, 1000000000000))).bind fun v11 =>
            some v11
           else
            some false
          else
           some false
         else
          some false
      else
       if a0 = 3 then
        if a0 = 1 then
         (impl_within k (a4, (0, 5000))).bind fun v12 =>
         if v12 = true then
          if (true == (decide (0 < a4))) = true then
           (impl_within k (a5, (0, 100))).bind fun v13 =>
           if v13 = true then
            (impl_within k (a6, (0, 1000000000000))).bind fun v14 =>
            some v14
           else
            some false
          else
           some false
         else
          some false
        else
         if a0 = 3 then
          (impl_within k (a4, (0, 5000))).bind fun v15 =>
          if v15 = true then
           if ((decide (a7 = 1)) == (decide (0 < a4))) = true then
            (impl_within k (a5, (0, 100))).bind fun v16 =>
            if v16 = true then
             (impl_within k (a6, (0, 1000000000000))).bind fun v17 =>
             some v17
            else
             some false
           else
            some false
          else
           some false
         else
          (impl_within k (a4, (0, 5000))).bind fun v18 =>
          if v18 = true then
           if (false == (decide (0 < a4))) = true then
            (impl_within k (a5, (0, 100))).bind fun v19 =>
            if v19 = true then
             (impl_within k (a6, (0, 1000000000000))).bind fun v20 =>
             some v20
            else
             some false
           else
            some false
          else
           some false
       else
        some false
     else
      some false
   else
    some false
  else
   some false
noncomputable def g_impl_PumpOk : (Int × Int × Int × Int × Int × Int × Int × Int) → Option (Bool) := impl_PumpOk_ (fun _ => g_impl_RateOk) (fun _ => g_impl_within) 0
theorem e_impl_PumpOk : ∀ x b, g_impl_PumpOk x = some b → ∃ k, impl_PumpOk_ (fun _ => g_impl_RateOk) (fun _ => g_impl_within) k x = some b := fun x b h => ⟨0, h⟩
/- impl_DeviceOk -/
def con_impl_DeviceOk (f : Nat → (Int × Int × Int × Int × Int × Int × Int × Int × List Int × Int × Int × Bool × Int × Int × ByteArray × (List (Int × (Int × Int))) × Int) → Option (Bool)) : Con := ⟨[.agg [.int .i64, .int .i64, .int .i64, .int .i64, .int .i64, .int .i64, .int .i64, .int .i64, .sl (.int .i64), .int .i64, .int .i64, .bool, .int .i64, .int .i64, .str, .sl (.pair (.int .i64) (.pair (.int .i64) (.int .i64))), .int .i64]], 1, [.v false [.bool]], f⟩
def impl_DeviceOk_ (impl_GuardOk : Nat → (List Int × Int) → Option (Bool)) (impl_MenuOk : Nat → (Int × Bool × Int × Int × ByteArray) → Option (Bool)) (impl_PumpOk : Nat → (Int × Int × Int × Int × Int × Int × Int × Int) → Option (Bool)) (impl_isNumber : Nat → Int → Option (Bool)) (k : Nat) : (Int × Int × Int × Int × Int × Int × Int × Int × List Int × Int × Int × Bool × Int × Int × ByteArray × (List (Int × (Int × Int))) × Int) → Option (Bool)
  | (a0, a1, a2, a3, a4, a5, a6, a7, a8, a9, a10, a11, a12, a13, a14, a15, a16) =>
  (impl_PumpOk k (a0, (a1, (a2, (a3, (a4, (a5, (a6, a7)))))))).bind fun v0 =>
  if v0 = true then
   (impl_GuardOk k (a8, a9)).bind fun v1 =>
   if v1 = true then
    (impl_MenuOk k (a10, (a11, (a12, (a13, a14))))).bind fun v2 =>
    if v2 = true then
     if ((List.length a15 : Nat) : Int) ≤ 200 then
      (impl_isNumber k a16).bind fun v3 =>
      some v3
     else
      some false
    else
     some false
   else
    some false
  else
   some false
noncomputable def g_impl_DeviceOk : (Int × Int × Int × Int × Int × Int × Int × Int × List Int × Int × Int × Bool × Int × Int × ByteArray × (List (Int × (Int × Int))) × Int) → Option (Bool) := impl_DeviceOk_ (fun _ => g_impl_GuardOk) (fun _ => g_impl_MenuOk) (fun _ => g_impl_PumpOk) (fun _ => g_impl_isNumber) 0
theorem e_impl_DeviceOk : ∀ x b, g_impl_DeviceOk x = some b → ∃ k, impl_DeviceOk_ (fun _ => g_impl_GuardOk) (fun _ => g_impl_MenuOk) (fun _ => g_impl_PumpOk) (fun _ => g_impl_isNumber) k x = some b := fun x b h => ⟨0, h⟩
/- impl_ShowDevice -/
def con_impl_ShowDevice (f : Nat → (Int × Int × Int × Int × Int × Int × Int × Int × List Int × Int × Int × Bool × Int × Int × ByteArray × (List (Int × (Int × Int))) × Int) → Option (ByteArray)) : Con := ⟨[.agg [.int .i64, .int .i64, .int .i64, .int .i64, .int .i64, .int .i64, .int .i64, .int .i64, .sl (.int .i64), .int .i64, .int .i64, .bool, .int .i64, .int .i64, .str, .sl (.pair (.int .i64) (.pair (.int .i64) (.int .i64))), .int .i64]], 1, [.v false [.str]], f⟩
def impl_ShowDevice_ (impl_Decimal : Nat → Int → Option (ByteArray)) (impl_DeviceOk : Nat → (Int × Int × Int × Int × Int × Int × Int × Int × List Int × Int × Int × Bool × Int × Int × ByteArray × (List (Int × (Int × Int))) × Int) → Option (Bool)) (impl_SenseNames : Nat → Int → Option (ByteArray)) (k : Nat) : (Int × Int × Int × Int × Int × Int × Int × Int × List Int × Int × Int × Bool × Int × Int × ByteArray × (List (Int × (Int × Int))) × Int) → Option (ByteArray)
  | (a0, a1, a2, a3, a4, a5, a6, a7, a8, a9, a10, a11, a12, a13, a14, a15, a16) =>
  (impl_DeviceOk k (a0, (a1, (a2, (a3, (a4, (a5, (a6, (a7, (a8, (a9, (a10, (a11, (a12, (a13, (a14, (a15, a16))))))))))))))))).bind fun v0 =>
  if v0 = true then
   (impl_Decimal k a0).bind fun v1 =>
   if ((ByteArray.size (⟨#[115, 116, 97, 116, 101, 32]⟩ : ByteArray) + ByteArray.size v1 : Nat) : Int) ≤ 9223372036854775807 then
    if ((ByteArray.size ((⟨#[115, 116, 97, 116, 101, 32]⟩ : ByteArray) ++ v1) + ByteArray.size (⟨#[32, 103, 105, 118, 101, 110, 32]⟩ : ByteArray) : Nat) : Int) ≤ 9223372036854775807 then (impl_Decimal k a6).bind fun v2 =>
     if ((ByteArray.size (((⟨#[115, 116, 97, 116, 101, 32]⟩ : ByteArray) ++ v1) ++ (⟨#[32, 103, 105, 118, 101, 110, 32]⟩ : ByteArray)) + ByteArray.size v2 : Nat) : Int) ≤ 9223372036854775807 then
      if ((ByteArray.size ((((⟨#[115, 116, 97, 116, 101, 32]⟩ : ByteArray) ++ v1) ++ (⟨#[32, 103, 105, 118, 101, 110, 32]⟩ : ByteArray)) ++ v2) + ByteArray.size (⟨#[32, 108, 101, 102, 116, 32]⟩ : ByteArray) : Nat) : Int) ≤ 9223372036854775807 then (impl_Decimal k a4).bind fun v3 =>
       if ((ByteArray.size (((((⟨#[115, 116, 97, 116, 101, 32]⟩ : ByteArray) ++ v1) ++ (⟨#[32, 103, 105, 118, 101, 110, 32]⟩ : ByteArray)) ++ v2) ++ (⟨#[32, 108, 101, 102, 116, 32]⟩ : ByteArray)) + ByteArray.size v3 : Nat) : Int) ≤ 9223372036854775807 then
        if ((ByteArray.size ((((((⟨#[115, 116, 97, 116, 101, 32]⟩ : ByteArray) ++ v1) ++ (⟨#[32, 103, 105, 118, 101, 110, 32]⟩ : ByteArray)) ++ v2) ++ (⟨#[32, 108, 101, 102, 116, 32]⟩ : ByteArray)) ++ v3) + ByteArray.size (⟨#[32, 97, 108, 97, 114, 109, 32]⟩ : ByteArray) : Nat) : Int) ≤ 9223372036854775807 then (impl_SenseNames k a9).bind fun v4 =>
         if ((ByteArray.size (((((((⟨#[115, 116, 97, 116, 101, 32]⟩ : ByteArray) ++ v1) ++ (⟨#[32, 103, 105, 118, 101, 110, 32]⟩ : ByteArray)) ++ v2) ++ (⟨#[32, 108, 101, 102, 116, 32]⟩ : ByteArray)) ++ v3) ++ (⟨#[32, 97, 108, 97, 114, 109, 32]⟩ : ByteArray)) + ByteArray.size v4 : Nat) : Int) ≤ 9223372036854775807 then
          if ((ByteArray.size ((((((((⟨#[115, 116, 97, 116, 101, 32]⟩ : ByteArray) ++ v1) ++ (⟨#[32, 103, 105, 118, 101, 110, 32]⟩ : ByteArray)) ++ v2) ++ (⟨#[32, 108, 101, 102, 116, 32]⟩ : ByteArray)) ++ v3) ++ (⟨#[32, 97, 108, 97, 114, 109, 32]⟩ : ByteArray)) ++ v4) + ByteArray.size (⟨#[10]⟩ : ByteArray) : Nat) : Int) ≤ 9223372036854775807 then some (((((((((⟨#[115, 116, 97, 116, 101, 32]⟩ : ByteArray) ++ v1) ++ (⟨#[32, 103, 105, 118, 101, 110, 32]⟩ : ByteArray)) ++ v2) ++ (⟨#[32, 108, 101, 102, 116, 32]⟩ : ByteArray)) ++ v3) ++ (⟨#[32, 97, 108, 97, 114, 109, 32]⟩ : ByteArray)) ++ v4) ++ (⟨#[10]⟩ : ByteArray)) else none
         else
          none else none
       else
        none else none
     else
      none else none
   else
    none
  else
   some (⟨#[]⟩ : ByteArray)
noncomputable def g_impl_ShowDevice : (Int × Int × Int × Int × Int × Int × Int × Int × List Int × Int × Int × Bool × Int × Int × ByteArray × (List (Int × (Int × Int))) × Int) → Option (ByteArray) := impl_ShowDevice_ (fun _ => g_impl_Decimal) (fun _ => g_impl_DeviceOk) (fun _ => g_impl_SenseNames) 0
theorem e_impl_ShowDevice : ∀ x b, g_impl_ShowDevice x = some b → ∃ k, impl_ShowDevice_ (fun _ => g_impl_Decimal) (fun _ => g_impl_DeviceOk) (fun _ => g_impl_SenseNames) k x = some b := fun x b h => ⟨0, h⟩
/- spec_l01In -/
def con_spec_l01In (f : Nat → Int × Int × Int → Option (Bool)) : Con := ⟨[.c (.int .i64), .c (.int .i64), .c (.int .i64)], 1, [.v false [.bool]], f⟩
def spec_l01In_ (k : Nat) : Int × Int × Int → Option (Bool)
  | (a0, a1, a2) =>
  if a1 ≤ a0 then
   some (decide (a0 ≤ a2))
  else
   some false
noncomputable def g_spec_l01In : Int × Int × Int → Option (Bool) := spec_l01In_  0
theorem e_spec_l01In : ∀ x b, g_spec_l01In x = some b → ∃ k, spec_l01In_  k x = some b := fun x b h => ⟨0, h⟩
/- spec_SenseOk -/
def con_spec_SenseOk (f : Nat → Int → Option (Bool)) : Con := ⟨[.c (.int .i64)], 1, [.v false [.bool]], f⟩
def spec_SenseOk_ (spec_l01In : Nat → Int × Int × Int → Option (Bool)) (k : Nat) : Int → Option (Bool)
  | a0 =>
  (spec_l01In k (a0, (0, 15))).bind fun v0 =>
  some v0
noncomputable def g_spec_SenseOk : Int → Option (Bool) := spec_SenseOk_ (fun _ => g_spec_l01In) 0
theorem e_spec_SenseOk : ∀ x b, g_spec_SenseOk x = some b → ∃ k, spec_SenseOk_ (fun _ => g_spec_l01In) k x = some b := fun x b h => ⟨0, h⟩
/- spec_Has -/
def con_spec_Has (f : Nat → Int × Int → Option (Bool)) : Con := ⟨[.c (.int .i64), .c (.int .i64)], 1, [.v false [.bool]], f⟩
def spec_Has_ (spec_SenseOk : Nat → Int → Option (Bool)) (k : Nat) : Int × Int → Option (Bool)
  | (a0, a1) =>
  (spec_SenseOk k a0).bind fun v0 =>
  if v0 = true then
   if a1 = 1 then
    if a1 = 0 then
     none
    else
     if 2 = 0 then
      none
     else
      some (decide ((Int.tmod (wrap64 (Int.tdiv a0 a1)) 2) = 1))
   else
    if a1 = 2 then
     if a1 = 0 then
      none
     else
      if 2 = 0 then
       none
      else
       some (decide ((Int.tmod (wrap64 (Int.tdiv a0 a1)) 2) = 1))
    else
     if a1 = 4 then
      if a1 = 0 then
       none
      else
       if 2 = 0 then
        none
       else
        some (decide ((Int.tmod (wrap64 (Int.tdiv a0 a1)) 2) = 1))
     else
      if a1 = 8 then
       if a1 = 0 then
        none
       else
        if 2 = 0 then
         none
        else
         some (decide ((Int.tmod (wrap64 (Int.tdiv a0 a1)) 2) = 1))
      else
       some false
  else
   some false
noncomputable def g_spec_Has : Int × Int → Option (Bool) := spec_Has_ (fun _ => g_spec_SenseOk) 0
theorem e_spec_Has : ∀ x b, g_spec_Has x = some b → ∃ k, spec_Has_ (fun _ => g_spec_SenseOk) k x = some b := fun x b h => ⟨0, h⟩
/- spec_SenseNames -/
def con_spec_SenseNames (f : Nat → Int → Option (ByteArray)) : Con := ⟨[.c (.int .i64)], 1, [.v false [.str]], f⟩
def spec_SenseNames_L7 (spec_Has : Nat → Int × Int → Option (Bool)) (spec_SenseOk : Nat → Int → Option (Bool)) : Nat → Int × ByteArray × Int × List ByteArray × List Int × Unit → Option (ByteArray)
  | 0, _ => none
  | k + 1, (b0, b1, b2, b3, b4, ()) =>
    if b2 < 4 then
     if 0 ≤ b2 then
      if b2 < ((List.length b4 : Nat) : Int) then (spec_Has k (b0, (List.getD b4 (Int.toNat b2) 0))).bind fun v0 =>
       if v0 = true then
        if b1 = (⟨#[]⟩ : ByteArray) then
         if 0 ≤ b2 then
          if b2 < ((List.length b3 : Nat) : Int) then
           if ((ByteArray.size b1 + ByteArray.size (List.getD b3 (Int.toNat b2) (⟨#[]⟩ : ByteArray)) : Nat) : Int) ≤ 9223372036854775807 then spec_SenseNames_L7 spec_Has spec_SenseOk k (b0, (b1 ++ (List.getD b3 (Int.toNat b2) (⟨#[]⟩ : ByteArray))), (wrap64 (b2 + 1)), b3, b4, ()) else none
          else
           none
         else
          none
        else
         if ((ByteArray.size b1 + ByteArray.size (⟨#[44]⟩ : ByteArray) : Nat) : Int) ≤ 9223372036854775807 then
          if 0 ≤ b2 then
           if b2 < ((List.length b3 : Nat) : Int) then
            if ((ByteArray.size (b1 ++ (⟨#[44]⟩ : ByteArray)) + ByteArray.size (List.getD b3 (Int.toNat b2) (⟨#[]⟩ : ByteArray)) : Nat) : Int) ≤ 9223372036854775807 then spec_SenseNames_L7 spec_Has spec_SenseOk k (b0, ((b1 ++ (⟨#[44]⟩ : ByteArray)) ++ (List.getD b3 (Int.toNat b2) (⟨#[]⟩ : ByteArray))), (wrap64 (b2 + 1)), b3, b4, ()) else none
           else
            none
          else
           none
         else
          none
       else
        spec_SenseNames_L7 spec_Has spec_SenseOk k (b0, b1, (wrap64 (b2 + 1)), b3, b4, ()) else none
     else
      none
    else
     if b1 = (⟨#[]⟩ : ByteArray) then
      some (⟨#[110, 111, 110, 101]⟩ : ByteArray)
     else
      some b1
def spec_SenseNames_ (spec_Has : Nat → Int × Int → Option (Bool)) (spec_SenseOk : Nat → Int → Option (Bool)) (k : Nat) : Int → Option (ByteArray)
  | a0 =>
  (spec_SenseOk k a0).bind fun v0 =>
  if v0 = true then
   spec_SenseNames_L7 spec_Has spec_SenseOk k (a0, (⟨#[]⟩ : ByteArray), 0, [(⟨#[98, 108, 111, 99, 107]⟩ : ByteArray), (⟨#[97, 105, 114]⟩ : ByteArray), (⟨#[100, 111, 111, 114]⟩ : ByteArray), (⟨#[112, 111, 119, 101, 114]⟩ : ByteArray)], [1, 2, 4, 8], ())
  else
   some (⟨#[]⟩ : ByteArray)
noncomputable def g_spec_SenseNames : Int → Option (ByteArray) := evG (spec_SenseNames_ (fun _ => g_spec_Has) (fun _ => g_spec_SenseOk))
theorem e_spec_SenseNames : ∀ x b, g_spec_SenseNames x = some b → ∃ k, spec_SenseNames_ (fun _ => g_spec_Has) (fun _ => g_spec_SenseOk) k x = some b := evG_e _
/- spec_l01Figure -/
def con_spec_l01Figure (f : Nat → Int → Option (Int)) : Con := ⟨[.c (.int .i64)], 1, [.v false [.int .u8]], f⟩
def spec_l01Figure_ (k : Nat) : Int → Option (Int)
  | a0 =>
  if a0 < 10 then
   some (wr .u8 (wrap64 (48 + a0)))
  else
   some (wr .u8 (wrap64 ((wrap64 (97 + a0)) - 10)))
noncomputable def g_spec_l01Figure : Int → Option (Int) := spec_l01Figure_  0
theorem e_spec_l01Figure : ∀ x b, g_spec_l01Figure x = some b → ∃ k, spec_l01Figure_  k x = some b := fun x b h => ⟨0, h⟩
/- spec_Decimal -/
def con_spec_Decimal (f : Nat → Int → Option (ByteArray)) : Con := ⟨[.c (.int .i64)], 1, [.v false [.str]], f⟩
def spec_Decimal_L5 (spec_l01Figure : Nat → Int → Option (Int)) : Nat → Int × Bool × ByteArray × Unit → Option (ByteArray)
  | 0, _ => none
  | k + 1, (b0, b1, b2, ()) =>
    if b0 = 0 then
     if b1 = true then
      if ((ByteArray.size (⟨#[45]⟩ : ByteArray) + ByteArray.size b2 : Nat) : Int) ≤ 9223372036854775807 then some ((⟨#[45]⟩ : ByteArray) ++ b2) else none
     else
      some b2
    else
     if 10 = 0 then
      none
     else
      if (Int.tmod b0 10) < 0 then
       (spec_l01Figure k (wrap64 (0 - (Int.tmod b0 10)))).bind fun v0 =>
       if ((ByteArray.size (bstr [v0]) + ByteArray.size b2 : Nat) : Int) ≤ 9223372036854775807 then
        if 10 = 0 then
         none
        else
         spec_Decimal_L5 spec_l01Figure k ((wrap64 (Int.tdiv b0 10)), b1, ((bstr [v0]) ++ b2), ())
       else
        none
      else
       (spec_l01Figure k (Int.tmod b0 10)).bind fun v1 =>
       if ((ByteArray.size (bstr [v1]) + ByteArray.size b2 : Nat) : Int) ≤ 9223372036854775807 then
        if 10 = 0 then
         none
        else
         spec_Decimal_L5 spec_l01Figure k ((wrap64 (Int.tdiv b0 10)), b1, ((bstr [v1]) ++ b2), ())
       else
        none
def spec_Decimal_ (spec_l01Figure : Nat → Int → Option (Int)) (k : Nat) : Int → Option (ByteArray)
  | a0 =>
  if a0 = 0 then
   some (⟨#[48]⟩ : ByteArray)
  else
   spec_Decimal_L5 spec_l01Figure k (a0, (decide (a0 < 0)), (⟨#[]⟩ : ByteArray), ())
noncomputable def g_spec_Decimal : Int → Option (ByteArray) := evG (spec_Decimal_ (fun _ => g_spec_l01Figure))
theorem e_spec_Decimal : ∀ x b, g_spec_Decimal x = some b → ∃ k, spec_Decimal_ (fun _ => g_spec_l01Figure) k x = some b := evG_e _
/- spec_MenuOk -/
def con_spec_MenuOk (f : Nat → (Int × Bool × Int × Int × ByteArray) → Option (Bool)) : Con := ⟨[.agg [.int .i64, .bool, .int .i64, .int .i64, .str]], 1, [.v false [.bool]], f⟩
def spec_MenuOk_L4 (spec_l01In : Nat → Int × Int × Int → Option (Bool)) : Nat → Int × Int × Bool × Int × Int × ByteArray × Unit → Option (Bool)
  | 0, _ => none
  | k + 1, (b0, b1, b2, b3, b4, b5, ()) =>
    if b0 < ((ByteArray.size b5 : Nat) : Int) then
     if 0 ≤ b0 then
      if b0 < ((ByteArray.size b5 : Nat) : Int) then
       if (byt b5 b0) < 48 then
        some false
       else
        if 0 ≤ b0 then
         if b0 < ((ByteArray.size b5 : Nat) : Int) then
          if 57 < (byt b5 b0) then
           some false
          else
           spec_MenuOk_L4 spec_l01In k ((wrap64 (b0 + 1)), b1, b2, b3, b4, b5, ())
         else
          none
        else
         none
      else
       none
     else
      none
    else
     if b1 = 1 then
      if b5 = (⟨#[]⟩ : ByteArray) then
       if b2 = true then
        some false
       else
        if b3 = 0 then
         some (decide (b4 = 0))
        else
         some false
      else
       some false
     else
      some true
def spec_MenuOk_ (spec_l01In : Nat → Int × Int × Int → Option (Bool)) (k : Nat) : (Int × Bool × Int × Int × ByteArray) → Option (Bool)
  | (a0, a1, a2, a3, a4) =>
  (spec_l01In k (a0, (1, 4))).bind fun v0 =>
  if v0 = true then
   (spec_l01In k (a2, (0, 9999))).bind fun v1 =>
   if v1 = true then
    (spec_l01In k (a3, (0, 9999))).bind fun v2 =>
    if v2 = true then
     if 4 < ((ByteArray.size a4 : Nat) : Int) then
      some false
     else
      spec_MenuOk_L4 spec_l01In k (0, a0, a1, a2, a3, a4, ())
    else
     some false
   else
    some false
  else
   some false
noncomputable def g_spec_MenuOk : (Int × Bool × Int × Int × ByteArray) → Option (Bool) := evG (spec_MenuOk_ (fun _ => g_spec_l01In))
theorem e_spec_MenuOk : ∀ x b, g_spec_MenuOk x = some b → ∃ k, spec_MenuOk_ (fun _ => g_spec_l01In) k x = some b := evG_e _
/- spec_l16Sum -/
def con_spec_l16Sum (f : Nat → List Int → Option (Int)) : Con := ⟨[.c (.sl (.int .i64))], 1, [.v false [.int .i64]], f⟩
def spec_l16Sum_L3 : Nat → Int × Int × List Int × Unit → Option (Int)
  | 0, _ => none
  | k + 1, (b0, b1, b2, ()) =>
    if b1 < ((List.length b2 : Nat) : Int) then
     if 0 ≤ b1 then
      if b1 < ((List.length b2 : Nat) : Int) then spec_l16Sum_L3 k ((wrap64 (b0 + (List.getD b2 (Int.toNat b1) 0))), (wrap64 (b1 + 1)), b2, ()) else none
     else
      none
    else
     some b0
def spec_l16Sum_ (k : Nat) : List Int → Option (Int)
  | a0 =>
  spec_l16Sum_L3 k (0, 0, a0, ())
noncomputable def g_spec_l16Sum : List Int → Option (Int) := evG (spec_l16Sum_ )
theorem e_spec_l16Sum : ∀ x b, g_spec_l16Sum x = some b → ∃ k, spec_l16Sum_  k x = some b := evG_e _
/- spec_GuardOk -/
def con_spec_GuardOk (f : Nat → (List Int × Int) → Option (Bool)) : Con := ⟨[.agg [.sl (.int .i64), .int .i64]], 1, [.v false [.bool]], f⟩
def spec_GuardOk_L4 (spec_SenseOk : Nat → Int → Option (Bool)) (spec_l01In : Nat → Int × Int × Int → Option (Bool)) (spec_l16Sum : Nat → List Int → Option (Int)) : Nat → Int × List Int × Int × Unit → Option (Bool)
  | 0, _ => none
  | k + 1, (b0, b1, b2, ()) =>
    if b0 < ((List.length b1 : Nat) : Int) then
     if 0 ≤ b0 then
      if b0 < ((List.length b1 : Nat) : Int) then (spec_l01In k ((List.getD b1 (Int.toNat b0) 0), (0, 30))).bind fun v0 =>
       if v0 = true then
        spec_GuardOk_L4 spec_SenseOk spec_l01In spec_l16Sum k ((wrap64 (b0 + 1)), b1, b2, ())
       else
        some false else none
     else
      none
    else
     (spec_l16Sum k b1).bind fun v1 =>
     some (decide (v1 ≤ 30))
def spec_GuardOk_ (spec_SenseOk : Nat → Int → Option (Bool)) (spec_l01In : Nat → Int × Int × Int → Option (Bool)) (spec_l16Sum : Nat → List Int → Option (Int)) (k : Nat) : (List Int × Int) → Option (Bool)
  | (a0, a1) =>
  if 9 < ((List.length a0 : Nat) : Int) then
   some false
  else
   (spec_SenseOk k a1).bind fun v0 =>
   if v0 = true then
    spec_GuardOk_L4 spec_SenseOk spec_l01In spec_l16Sum k (0, a0, a1, ())
   else
    some false
noncomputable def g_spec_GuardOk : (List Int × Int) → Option (Bool) := evG (spec_GuardOk_ (fun _ => g_spec_SenseOk) (fun _ => g_spec_l01In) (fun _ => g_spec_l16Sum))
theorem e_spec_GuardOk : ∀ x b, g_spec_GuardOk x = some b → ∃ k, spec_GuardOk_ (fun _ => g_spec_SenseOk) (fun _ => g_spec_l01In) (fun _ => g_spec_l16Sum) k x = some b := evG_e _
/- spec_RateOk -/
def con_spec_RateOk (f : Nat → (Int × Int × Int) → Option (Bool)) : Con := ⟨[.agg [.int .i64, .int .i64, .int .i64]], 1, [.v false [.bool]], f⟩
def spec_RateOk_ (spec_l01In : Nat → Int × Int × Int → Option (Bool)) (k : Nat) : (Int × Int × Int) → Option (Bool)
  | (a0, a1, a2) =>
  (spec_l01In k (a0, (0, 1000000))).bind fun v0 =>
  if v0 = true then
   (spec_l01In k (a1, (1, 1000000))).bind fun v1 =>
   if v1 = true then
    (spec_l01In k (a2, (0, (wrap64 (a1 - 1))))).bind fun v2 =>
    some v2
   else
    some false
  else
   some false
noncomputable def g_spec_RateOk : (Int × Int × Int) → Option (Bool) := spec_RateOk_ (fun _ => g_spec_l01In) 0
theorem e_spec_RateOk : ∀ x b, g_spec_RateOk x = some b → ∃ k, spec_RateOk_ (fun _ => g_spec_l01In) k x = some b := fun x b h => ⟨0, h⟩
/- spec_PumpOk -/
def con_spec_PumpOk (f : Nat → (Int × Int × Int × Int × Int × Int × Int × Int) → Option (Bool)) : Con := ⟨[.agg [.int .i64, .int .i64, .int .i64, .int .i64, .int .i64, .int .i64, .int .i64, .int .i64]], 1, [.v false [.bool]], f⟩
def spec_PumpOk_ (spec_RateOk : Nat → (Int × Int × Int) → Option (Bool)) (spec_l01In : Nat → Int × Int × Int → Option (Bool)) (k : Nat) : (Int × Int × Int × Int × Int × Int × Int × Int) → Option (Bool)
  | (a0, a1, a2, a3, a4, a5, a6, a7) =>
  if a0 = 1 then
   (spec_l01In k (a0, (0, 3))).bind fun v0 =>
   if v0 = true then
    (spec_RateOk k (a1, (a2, a3))).bind fun v1 =>
    if v1 = true then
     if (wrap64 (3 * a2)) < a1 then
      some false
     else
      (spec_l01In k (a4, (0, 5000))).bind fun v2 =>
      if v2 = true then
       if ((decide (0 < a4)) == true) = true then
        (spec_l01In k (a5, (0, 100))).bind fun v3 =>
        if v3 = true then
         (spec_l01In k (a6, (0, 1000000000000))).bind fun v4 =>
         if v4 = true then
          (spec_l01In k (a7, (0, 2))).bind fun v5 =>
          if v5 = true then
           if a0 = 3 then
            some true
           else
            some (decide (a7 = 0))
          else
           some false
         else
          some false
        else
         some false
       else
        some false
      else
       some false
    else
     some false
   else
    some false
  else
   if a0 = 3 then
    (spec_l01In k (a0, (0, 3))).bind fun v6 =>
    if v6 = true then
     (spec_RateOk k (a1, (a2, a3))).bind fun v7 =>
     if v7 = true then
      if (wrap64 (3 * a2)) < a1 then
       some false
      else
       (spec_l01In k (a4, (0, 5000))).bind fun v8 =>
       if v8 = true then
        if ((decide (0 < a4)) == (decide (a7 = 1))) = true then
         (spec_l01In k (a5, (0, 100))).bind fun v9 =>
         if v9 = true then
          (spec_l01In k (a6, (0, 1000000000000))).bind fun v10 =>
          if v10 = true then
           (spec_l01In k (a7, (0, 2))).bind fun v11 =>
           if v11 = true then
            if a0 = 3 then
             some true
            else
             some (decide (a7 = 0))
           else
            some false
          else
           some false
         else
          some false
        else
         some false
       else
        some false
     else
      some false
    else
     some false
   else
    (spec_l01In k (a0, (0, 3))).bind fun v12 =>
    if v12 = true then
     (spec_RateOk k (a1, (a2, a3))).bind fun v13 =>
     if v13 = true then
      if (wrap64 (3 * a2)) < a1 then
       some false
      else
       (spec_l01In k (a4, (0, 5000))).bind fun v14 =>
       if v14 = true then
        if ((decide (0 < a4)) == false) = true then
         (spec_l01In k (a5, (0, 100))).bind fun v15 =>
         if v15 = true then
          (spec_l01In k (a6, (0, 1000000000000))).bind fun v16 =>
          if v16 = true then
           (spec_l01In k (a7, (0, 2))).bind fun v17 =>
           if v17 = true then
            if a0 = 3 then
             some true
            else
             some (decide (a7 = 0))
           else
            some false
          else
           some false
         else
          some false
        else
         some false
       else
        some false
     else
      some false
    else
     some false
noncomputable def g_spec_PumpOk : (Int × Int × Int × Int × Int × Int × Int × Int) → Option (Bool) := spec_PumpOk_ (fun _ => g_spec_RateOk) (fun _ => g_spec_l01In) 0
theorem e_spec_PumpOk : ∀ x b, g_spec_PumpOk x = some b → ∃ k, spec_PumpOk_ (fun _ => g_spec_RateOk) (fun _ => g_spec_l01In) k x = some b := fun x b h => ⟨0, h⟩
/- spec_DeviceOk -/
def con_spec_DeviceOk (f : Nat → (Int × Int × Int × Int × Int × Int × Int × Int × List Int × Int × Int × Bool × Int × Int × ByteArray × (List (Int × (Int × Int))) × Int) → Option (Bool)) : Con := ⟨[.agg [.int .i64, .int .i64, .int .i64, .int .i64, .int .i64, .int .i64, .int .i64, .int .i64, .sl (.int .i64), .int .i64, .int .i64, .bool, .int .i64, .int .i64, .str, .sl (.pair (.int .i64) (.pair (.int .i64) (.int .i64))), .int .i64]], 1, [.v false [.bool]], f⟩
def spec_DeviceOk_ (spec_GuardOk : Nat → (List Int × Int) → Option (Bool)) (spec_MenuOk : Nat → (Int × Bool × Int × Int × ByteArray) → Option (Bool)) (spec_PumpOk : Nat → (Int × Int × Int × Int × Int × Int × Int × Int) → Option (Bool)) (spec_l01In : Nat → Int × Int × Int → Option (Bool)) (k : Nat) : (Int × Int × Int × Int × Int × Int × Int × Int × List Int × Int × Int × Bool × Int × Int × ByteArray × (List (Int × (Int × Int))) × Int) → Option (Bool)
  | (a0, a1, a2, a3, a4, a5, a6, a7, a8, a9, a10, a11, a12, a13, a14, a15, a16) =>
  (spec_PumpOk k (a0, (a1, (a2, (a3, (a4, (a5, (a6, a7)))))))).bind fun v0 =>
  if v0 = true then
   (spec_GuardOk k (a8, a9)).bind fun v1 =>
   if v1 = true then
    (spec_MenuOk k (a10, (a11, (a12, (a13, a14))))).bind fun v2 =>
    if v2 = true then
     if ((List.length a15 : Nat) : Int) ≤ 200 then
      (spec_l01In k (a16, (0, 1000000000))).bind fun v3 =>
      some v3
     else
      some false
    else
     some false
   else
    some false
  else
   some false
noncomputable def g_spec_DeviceOk : (Int × Int × Int × Int × Int × Int × Int × Int × List Int × Int × Int × Bool × Int × Int × ByteArray × (List (Int × (Int × Int))) × Int) → Option (Bool) := spec_DeviceOk_ (fun _ => g_spec_GuardOk) (fun _ => g_spec_MenuOk) (fun _ => g_spec_PumpOk) (fun _ => g_spec_l01In) 0
theorem e_spec_DeviceOk : ∀ x b, g_spec_DeviceOk x = some b → ∃ k, spec_DeviceOk_ (fun _ => g_spec_GuardOk) (fun _ => g_spec_MenuOk) (fun _ => g_spec_PumpOk) (fun _ => g_spec_l01In) k x = some b := fun x b h => ⟨0, h⟩
/- spec_ShowDevice -/
def con_spec_ShowDevice (f : Nat → (Int × Int × Int × Int × Int × Int × Int × Int × List Int × Int × Int × Bool × Int × Int × ByteArray × (List (Int × (Int × Int))) × Int) → Option (ByteArray)) : Con := ⟨[.agg [.int .i64, .int .i64, .int .i64, .int .i64, .int .i64, .int .i64, .int .i64, .int .i64, .sl (.int .i64), .int .i64, .int .i64, .bool, .int .i64, .int .i64, .str, .sl (.pair (.int .i64) (.pair (.int .i64) (.int .i64))), .int .i64]], 1, [.v false [.str]], f⟩
def spec_ShowDevice_ (spec_Decimal : Nat → Int → Option (ByteArray)) (spec_DeviceOk : Nat → (Int × Int × Int × Int × Int × Int × Int × Int × List Int × Int × Int × Bool × Int × Int × ByteArray × (List (Int × (Int × Int))) × Int) → Option (Bool)) (spec_SenseNames : Nat → Int → Option (ByteArray)) (k : Nat) : (Int × Int × Int × Int × Int × Int × Int × Int × List Int × Int × Int × Bool × Int × Int × ByteArray × (List (Int × (Int × Int))) × Int) → Option (ByteArray)
  | (a0, a1, a2, a3, a4, a5, a6, a7, a8, a9, a10, a11, a12, a13, a14, a15, a16) =>
  (spec_DeviceOk k (a0, (a1, (a2, (a3, (a4, (a5, (a6, (a7, (a8, (a9, (a10, (a11, (a12, (a13, (a14, (a15, a16))))))))))))))))).bind fun v0 =>
  if v0 = true then
   (spec_Decimal k a0).bind fun v1 =>
   if ((ByteArray.size (⟨#[115, 116, 97, 116, 101, 32]⟩ : ByteArray) + ByteArray.size v1 : Nat) : Int) ≤ 9223372036854775807 then
    if ((ByteArray.size ((⟨#[115, 116, 97, 116, 101, 32]⟩ : ByteArray) ++ v1) + ByteArray.size (⟨#[32, 103, 105, 118, 101, 110, 32]⟩ : ByteArray) : Nat) : Int) ≤ 9223372036854775807 then (spec_Decimal k a6).bind fun v2 =>
     if ((ByteArray.size (((⟨#[115, 116, 97, 116, 101, 32]⟩ : ByteArray) ++ v1) ++ (⟨#[32, 103, 105, 118, 101, 110, 32]⟩ : ByteArray)) + ByteArray.size v2 : Nat) : Int) ≤ 9223372036854775807 then
      if ((ByteArray.size ((((⟨#[115, 116, 97, 116, 101, 32]⟩ : ByteArray) ++ v1) ++ (⟨#[32, 103, 105, 118, 101, 110, 32]⟩ : ByteArray)) ++ v2) + ByteArray.size (⟨#[32, 108, 101, 102, 116, 32]⟩ : ByteArray) : Nat) : Int) ≤ 9223372036854775807 then (spec_Decimal k a4).bind fun v3 =>
       if ((ByteArray.size (((((⟨#[115, 116, 97, 116, 101, 32]⟩ : ByteArray) ++ v1) ++ (⟨#[32, 103, 105, 118, 101, 110, 32]⟩ : ByteArray)) ++ v2) ++ (⟨#[32, 108, 101, 102, 116, 32]⟩ : ByteArray)) + ByteArray.size v3 : Nat) : Int) ≤ 9223372036854775807 then
        if ((ByteArray.size ((((((⟨#[115, 116, 97, 116, 101, 32]⟩ : ByteArray) ++ v1) ++ (⟨#[32, 103, 105, 118, 101, 110, 32]⟩ : ByteArray)) ++ v2) ++ (⟨#[32, 108, 101, 102, 116, 32]⟩ : ByteArray)) ++ v3) + ByteArray.size (⟨#[32, 97, 108, 97, 114, 109, 32]⟩ : ByteArray) : Nat) : Int) ≤ 9223372036854775807 then (spec_SenseNames k a9).bind fun v4 =>
         if ((ByteArray.size (((((((⟨#[115, 116, 97, 116, 101, 32]⟩ : ByteArray) ++ v1) ++ (⟨#[32, 103, 105, 118, 101, 110, 32]⟩ : ByteArray)) ++ v2) ++ (⟨#[32, 108, 101, 102, 116, 32]⟩ : ByteArray)) ++ v3) ++ (⟨#[32, 97, 108, 97, 114, 109, 32]⟩ : ByteArray)) + ByteArray.size v4 : Nat) : Int) ≤ 9223372036854775807 then
          if ((ByteArray.size ((((((((⟨#[115, 116, 97, 116, 101, 32]⟩ : ByteArray) ++ v1) ++ (⟨#[32, 103, 105, 118, 101, 110, 32]⟩ : ByteArray)) ++ v2) ++ (⟨#[32, 108, 101, 102, 116, 32]⟩ : ByteArray)) ++ v3) ++ (⟨#[32, 97, 108, 97, 114, 109, 32]⟩ : ByteArray)) ++ v4) + ByteArray.size (⟨#[10]⟩ : ByteArray) : Nat) : Int) ≤ 9223372036854775807 then some (((((((((⟨#[115, 116, 97, 116, 101, 32]⟩ : ByteArray) ++ v1) ++ (⟨#[32, 103, 105, 118, 101, 110, 32]⟩ : ByteArray)) ++ v2) ++ (⟨#[32, 108, 101, 102, 116, 32]⟩ : ByteArray)) ++ v3) ++ (⟨#[32, 97, 108, 97, 114, 109, 32]⟩ : ByteArray)) ++ v4) ++ (⟨#[10]⟩ : ByteArray)) else none
         else
          none else none
       else
        none else none
     else
      none else none
   else
    none
  else
   some (⟨#[]⟩ : ByteArray)
noncomputable def g_spec_ShowDevice : (Int × Int × Int × Int × Int × Int × Int × Int × List Int × Int × Int × Bool × Int × Int × ByteArray × (List (Int × (Int × Int))) × Int) → Option (ByteArray) := spec_ShowDevice_ (fun _ => g_spec_Decimal) (fun _ => g_spec_DeviceOk) (fun _ => g_spec_SenseNames) 0
theorem e_spec_ShowDevice : ∀ x b, g_spec_ShowDevice x = some b → ∃ k, spec_ShowDevice_ (fun _ => g_spec_Decimal) (fun _ => g_spec_DeviceOk) (fun _ => g_spec_SenseNames) k x = some b := fun x b h => ⟨0, h⟩
/- laws_szTickS -/
def con_laws_szTickS (f : Nat → ((List (Int × (Int × Int)))) × Int → Option (Int)) : Con := ⟨[.c (.sl (.pair (.int .i64) (.pair (.int .i64) (.int .i64)))), .c (.int .i64)], 1, [.v false [.int .i64]], f⟩
def laws_szTickS_ (k : Nat) : ((List (Int × (Int × Int)))) × Int → Option (Int)
  | (a0, a1) =>
  if (wrap64 (a1 - ((List.length a0 : Nat) : Int))) < 0 then
   some (-1)
  else
   some (wrap64 (a1 - ((List.length a0 : Nat) : Int)))
noncomputable def g_laws_szTickS : ((List (Int × (Int × Int)))) × Int → Option (Int) := laws_szTickS_  0
theorem e_laws_szTickS : ∀ x b, g_laws_szTickS x = some b → ∃ k, laws_szTickS_  k x = some b := fun x b h => ⟨0, h⟩
/- laws_szMenu -/
def con_laws_szMenu (f : Nat → (Int × Bool × Int × Int × ByteArray) × Int → Option (Int)) : Con := ⟨[.agg [.int .i64, .bool, .int .i64, .int .i64, .str], .c (.int .i64)], 1, [.v false [.int .i64]], f⟩
def laws_szMenu_ (k : Nat) : (Int × Bool × Int × Int × ByteArray) × Int → Option (Int)
  | ((a0, a1, a2, a3, a4), a5) =>
  if (wrap64 (a5 - ((ByteArray.size a4 : Nat) : Int))) < 0 then
   some (-1)
  else
   some (wrap64 (a5 - ((ByteArray.size a4 : Nat) : Int)))
noncomputable def g_laws_szMenu : (Int × Bool × Int × Int × ByteArray) × Int → Option (Int) := laws_szMenu_  0
theorem e_laws_szMenu : ∀ x b, g_laws_szMenu x = some b → ∃ k, laws_szMenu_  k x = some b := fun x b h => ⟨0, h⟩
/- laws_szIntS -/
def con_laws_szIntS (f : Nat → List Int × Int → Option (Int)) : Con := ⟨[.c (.sl (.int .i64)), .c (.int .i64)], 1, [.v false [.int .i64]], f⟩
def laws_szIntS_ (k : Nat) : List Int × Int → Option (Int)
  | (a0, a1) =>
  if (wrap64 (a1 - ((List.length a0 : Nat) : Int))) < 0 then
   some (-1)
  else
   some (wrap64 (a1 - ((List.length a0 : Nat) : Int)))
noncomputable def g_laws_szIntS : List Int × Int → Option (Int) := laws_szIntS_  0
theorem e_laws_szIntS : ∀ x b, g_laws_szIntS x = some b → ∃ k, laws_szIntS_  k x = some b := fun x b h => ⟨0, h⟩
/- laws_szGuard -/
def con_laws_szGuard (f : Nat → (List Int × Int) × Int → Option (Int)) : Con := ⟨[.agg [.sl (.int .i64), .int .i64], .c (.int .i64)], 1, [.v false [.int .i64]], f⟩
def laws_szGuard_ (laws_szIntS : Nat → List Int × Int → Option (Int)) (k : Nat) : (List Int × Int) × Int → Option (Int)
  | ((a0, a1), a2) =>
  (laws_szIntS k (a0, a2)).bind fun v0 =>
  if v0 < 0 then
   some (-1)
  else
   some v0
noncomputable def g_laws_szGuard : (List Int × Int) × Int → Option (Int) := laws_szGuard_ (fun _ => g_laws_szIntS) 0
theorem e_laws_szGuard : ∀ x b, g_laws_szGuard x = some b → ∃ k, laws_szGuard_ (fun _ => g_laws_szIntS) k x = some b := fun x b h => ⟨0, h⟩
/- laws_szDevice -/
def con_laws_szDevice (f : Nat → (Int × Int × Int × Int × Int × Int × Int × Int × List Int × Int × Int × Bool × Int × Int × ByteArray × (List (Int × (Int × Int))) × Int) × Int → Option (Int)) : Con := ⟨[.agg [.int .i64, .int .i64, .int .i64, .int .i64, .int .i64, .int .i64, .int .i64, .int .i64, .sl (.int .i64), .int .i64, .int .i64, .bool, .int .i64, .int .i64, .str, .sl (.pair (.int .i64) (.pair (.int .i64) (.int .i64))), .int .i64], .c (.int .i64)], 1, [.v false [.int .i64]], f⟩
def laws_szDevice_ (laws_szGuard : Nat → (List Int × Int) × Int → Option (Int)) (laws_szMenu : Nat → (Int × Bool × Int × Int × ByteArray) × Int → Option (Int)) (laws_szTickS : Nat → ((List (Int × (Int × Int)))) × Int → Option (Int)) (k : Nat) : (Int × Int × Int × Int × Int × Int × Int × Int × List Int × Int × Int × Bool × Int × Int × ByteArray × (List (Int × (Int × Int))) × Int) × Int → Option (Int)
  | ((a0, a1, a2, a3, a4, a5, a6, a7, a8, a9, a10, a11, a12, a13, a14, a15, a16), a17) =>
  (laws_szGuard k ((a8, a9), a17)).bind fun v0 =>
  if v0 < 0 then
   some (-1)
  else
   (laws_szMenu k ((a10, (a11, (a12, (a13, a14)))), v0)).bind fun v1 =>
   if v1 < 0 then
    some (-1)
   else
    (laws_szTickS k (a15, v1)).bind fun v2 =>
    if v2 < 0 then
     some (-1)
    else
     some v2
noncomputable def g_laws_szDevice : (Int × Int × Int × Int × Int × Int × Int × Int × List Int × Int × Int × Bool × Int × Int × ByteArray × (List (Int × (Int × Int))) × Int) × Int → Option (Int) := laws_szDevice_ (fun _ => g_laws_szGuard) (fun _ => g_laws_szMenu) (fun _ => g_laws_szTickS) 0
theorem e_laws_szDevice : ∀ x b, g_laws_szDevice x = some b → ∃ k, laws_szDevice_ (fun _ => g_laws_szGuard) (fun _ => g_laws_szMenu) (fun _ => g_laws_szTickS) k x = some b := fun x b h => ⟨0, h⟩
/- laws_FnExactShowDevice -/
def con_laws_FnExactShowDevice (f : Nat → (Int × Int × Int × Int × Int × Int × Int × Int × List Int × Int × Int × Bool × Int × Int × ByteArray × (List (Int × (Int × Int))) × Int) → Option (Bool)) : Con := ⟨[.agg [.int .i64, .int .i64, .int .i64, .int .i64, .int .i64, .int .i64, .int .i64, .int .i64, .sl (.int .i64), .int .i64, .int .i64, .bool, .int .i64, .int .i64, .str, .sl (.pair (.int .i64) (.pair (.int .i64) (.int .i64))), .int .i64]], 1, [.v false [.bool]], f⟩
def laws_FnExactShowDevice_ (impl_ShowDevice : Nat → (Int × Int × Int × Int × Int × Int × Int × Int × List Int × Int × Int × Bool × Int × Int × ByteArray × (List (Int × (Int × Int))) × Int) → Option (ByteArray)) (laws_eqDevice : Nat → (Int × Int × Int × Int × Int × Int × Int × Int × List Int × Int × Int × Bool × Int × Int × ByteArray × (List (Int × (Int × Int))) × Int) × (Int × Int × Int × Int × Int × Int × Int × Int × List Int × Int × Int × Bool × Int × Int × ByteArray × (List (Int × (Int × Int))) × Int) → Option (Bool)) (laws_szDevice : Nat → (Int × Int × Int × Int × Int × Int × Int × Int × List Int × Int × Int × Bool × Int × Int × ByteArray × (List (Int × (Int × Int))) × Int) × Int → Option (Int)) (laws_toDevice : Nat → (Int × Int × Int × Int × Int × Int × Int × Int × List Int × Int × Int × Bool × Int × Int × ByteArray × (List (Int × (Int × Int))) × Int) → Option ((Int × Int × Int × Int × Int × Int × Int × Int × List Int × Int × Int × Bool × Int × Int × ByteArray × (List (Int × (Int × Int))) × Int))) (spec_ShowDevice : Nat → (Int × Int × Int × Int × Int × Int × Int × Int × List Int × Int × Int × Bool × Int × Int × ByteArray × (List (Int × (Int × Int))) × Int) → Option (ByteArray)) (k : Nat) : (Int × Int × Int × Int × Int × Int × Int × Int × List Int × Int × Int × Bool × Int × Int × ByteArray × (List (Int × (Int × Int))) × Int) → Option (Bool)
  | (a0, a1, a2, a3, a4, a5, a6, a7, a8, a9, a10, a11, a12, a13, a14, a15, a16) =>
  (laws_szDevice k ((a0, (a1, (a2, (a3, (a4, (a5, (a6, (a7, (a8, (a9, (a10, (a11, (a12, (a13, (a14, (a15, a16)))))))))))))))), 1048576)).bind fun v0 =>
  if v0 < 0 then
   some true
  else
   (laws_toDevice k (a0, (a1, (a2, (a3, (a4, (a5, (a6, (a7, (a8, (a9, (a10, (a11, (a12, (a13, (a14, (a15, a16))))))))))))))))).bind fun v1 =>
   (spec_ShowDevice k v1).bind fun v2 =>
   (laws_toDevice k (a0, (a1, (a2, (a3, (a4, (a5, (a6, (a7, (a8, (a9, (a10, (a11, (a12, (a13, (a14, (a15, a16))))))))))))))))).bind fun v3 =>
   (impl_ShowDevice k v3).bind fun v4 =>
   if v4 = v2 then
    (laws_toDevice k (a0, (a1, (a2, (a3, (a4, (a5, (a6, (a7, (a8, (a9, (a10, (a11, (a12, (a13, (a14, (a15, a16))))))))))))))))).bind fun v5 =>
    (laws_eqDevice k (v3, v5)).bind fun v6 =>
    if v6 = true then
     some true
    else
     some false
   else
    some false
noncomputable def g_laws_FnExactShowDevice : (Int × Int × Int × Int × Int × Int × Int × Int × List Int × Int × Int × Bool × Int × Int × ByteArray × (List (Int × (Int × Int))) × Int) → Option (Bool) := laws_FnExactShowDevice_ (fun _ => g_impl_ShowDevice) (fun _ => g_laws_eqDevice) (fun _ => g_laws_szDevice) (fun _ => g_laws_toDevice) (fun _ => g_spec_ShowDevice) 0
theorem e_laws_FnExactShowDevice : ∀ x b, g_laws_FnExactShowDevice x = some b → ∃ k, laws_FnExactShowDevice_ (fun _ => g_impl_ShowDevice) (fun _ => g_laws_eqDevice) (fun _ => g_laws_szDevice) (fun _ => g_laws_toDevice) (fun _ => g_spec_ShowDevice) k x = some b := fun x b h => ⟨0, h⟩
end Go.Sx.T
