/- Functions of the program as functions of Lean, and that the program keeps to them. -/
import Derived.Test.YtkcfdkfdmglamaaSz4
set_option maxRecDepth 100000
set_option linter.unusedVariables false
set_option linter.unusedSimpArgs false
namespace Go.Proofs
end Go.Proofs
namespace Go.Sx.T
open Go Go.Sx Go.Proofs Go.RowKit
/- laws_eqEntry -/
def con_laws_eqEntry (f : Nat → (Int × Int × Int × Int × Int) × (Int × Int × Int × Int × Int) → Option (Bool)) : Con := ⟨[.agg [.int .i64, .int .i64, .int .i64, .int .i64, .int .i64], .agg [.int .i64, .int .i64, .int .i64, .int .i64, .int .i64]], 1, [.v false [.bool]], f⟩
def laws_eqEntry_ (k : Nat) : (Int × Int × Int × Int × Int) × (Int × Int × Int × Int × Int) → Option (Bool)
  | ((a0, a1, a2, a3, a4), (a5, a6, a7, a8, a9)) =>
  if a0 = a5 then
   if a1 = a6 then
    if a2 = a7 then
     if a3 = a8 then
      if a4 = a9 then
       some true
      else
       some false
     else
      some false
    else
     some false
   else
    some false
  else
   some false
noncomputable def g_laws_eqEntry : (Int × Int × Int × Int × Int) × (Int × Int × Int × Int × Int) → Option (Bool) := laws_eqEntry_  0
theorem e_laws_eqEntry : ∀ x b, g_laws_eqEntry x = some b → ∃ k, laws_eqEntry_  k x = some b := fun x b h => ⟨0, h⟩
/- laws_eqEntryS -/
def con_laws_eqEntryS (f : Nat → ((List (Int × (Int × (Int × (Int × Int)))))) × ((List (Int × (Int × (Int × (Int × Int)))))) → Option (Bool)) : Con := ⟨[.c (.sl (.pair (.int .i64) (.pair (.int .i64) (.pair (.int .i64) (.pair (.int .i64) (.int .i64)))))), .c (.sl (.pair (.int .i64) (.pair (.int .i64) (.pair (.int .i64) (.pair (.int .i64) (.int .i64))))))], 1, [.v false [.bool]], f⟩
def laws_eqEntryS_L4 (laws_eqEntry : Nat → (Int × Int × Int × Int × Int) × (Int × Int × Int × Int × Int) → Option (Bool)) : Nat → Int × (List (Int × (Int × (Int × (Int × Int))))) × (List (Int × (Int × (Int × (Int × Int))))) × Unit → Option (Bool)
  | 0, _ => none
  | k + 1, (b0, b1, b2, ()) =>
    if b0 < ((List.length b1 : Nat) : Int) then
     if 0 ≤ b0 then
      if b0 < ((List.length b1 : Nat) : Int) then
       if 0 ≤ b0 then
        if b0 < ((List.length b2 : Nat) : Int) then (laws_eqEntry k ((List.getD b1 (Int.toNat b0) (0, (0, (0, (0, 0))))), (List.getD b2 (Int.toNat b0) (0, (0, (0, (0, 0))))))).bind fun v0 =>
         if v0 = true then
          laws_eqEntryS_L4 laws_eqEntry k ((wrap64 (b0 + 1)), b1, b2, ())
         else
          some false else none
       else
        none
      else
       none
     else
      none
    else
     some true
def laws_eqEntryS_ (laws_eqEntry : Nat → (Int × Int × Int × Int × Int) × (Int × Int × Int × Int × Int) → Option (Bool)) (k : Nat) : ((List (Int × (Int × (Int × (Int × Int)))))) × ((List (Int × (Int × (Int × (Int × Int)))))) → Option (Bool)
  | (a0, a1) =>
  if ((List.length a0 : Nat) : Int) = ((List.length a1 : Nat) : Int) then
   laws_eqEntryS_L4 laws_eqEntry k (0, a0, a1, ())
  else
   some false
noncomputable def g_laws_eqEntryS : ((List (Int × (Int × (Int × (Int × Int)))))) × ((List (Int × (Int × (Int × (Int × Int)))))) → Option (Bool) := evG (laws_eqEntryS_ (fun _ => g_laws_eqEntry))
theorem e_laws_eqEntryS : ∀ x b, g_laws_eqEntryS x = some b → ∃ k, laws_eqEntryS_ (fun _ => g_laws_eqEntry) k x = some b := evG_e _
/- laws_eqIntS -/
def con_laws_eqIntS (f : Nat → List Int × List Int → Option (Bool)) : Con := ⟨[.c (.sl (.int .i64)), .c (.sl (.int .i64))], 1, [.v false [.bool]], f⟩
def laws_eqIntS_L4 : Nat → Int × List Int × List Int × Unit → Option (Bool)
  | 0, _ => none
  | k + 1, (b0, b1, b2, ()) =>
    if b0 < ((List.length b1 : Nat) : Int) then
     if 0 ≤ b0 then
      if b0 < ((List.length b1 : Nat) : Int) then
       if 0 ≤ b0 then
        if b0 < ((List.length b2 : Nat) : Int) then
         if (List.getD b1 (Int.toNat b0) 0) = (List.getD b2 (Int.toNat b0) 0) then
          laws_eqIntS_L4 k ((wrap64 (b0 + 1)), b1, b2, ())
         else
          some false
        else
         none
       else
        none
      else
       none
     else
      none
    else
     some true
def laws_eqIntS_ (k : Nat) : List Int × List Int → Option (Bool)
  | (a0, a1) =>
  if ((List.length a0 : Nat) : Int) = ((List.length a1 : Nat) : Int) then
   laws_eqIntS_L4 k (0, a0, a1, ())
  else
   some false
noncomputable def g_laws_eqIntS : List Int × List Int → Option (Bool) := evG (laws_eqIntS_ )
theorem e_laws_eqIntS : ∀ x b, g_laws_eqIntS x = some b → ∃ k, laws_eqIntS_  k x = some b := evG_e _
/- laws_eqMsg -/
def con_laws_eqMsg (f : Nat → (Int × Int) × (Int × Int) → Option (Bool)) : Con := ⟨[.agg [.int .i64, .int .i64], .agg [.int .i64, .int .i64]], 1, [.v false [.bool]], f⟩
def laws_eqMsg_ (k : Nat) : (Int × Int) × (Int × Int) → Option (Bool)
  | ((a0, a1), (a2, a3)) =>
  if a0 = a2 then
   if a1 = a3 then
    some true
   else
    some false
  else
   some false
noncomputable def g_laws_eqMsg : (Int × Int) × (Int × Int) → Option (Bool) := laws_eqMsg_  0
theorem e_laws_eqMsg : ∀ x b, g_laws_eqMsg x = some b → ∃ k, laws_eqMsg_  k x = some b := fun x b h => ⟨0, h⟩
/- laws_eqMsgS -/
def con_laws_eqMsgS (f : Nat → ((List (Int × Int))) × ((List (Int × Int))) → Option (Bool)) : Con := ⟨[.c (.sl (.pair (.int .i64) (.int .i64))), .c (.sl (.pair (.int .i64) (.int .i64)))], 1, [.v false [.bool]], f⟩
def laws_eqMsgS_L4 (laws_eqMsg : Nat → (Int × Int) × (Int × Int) → Option (Bool)) : Nat → Int × (List (Int × Int)) × (List (Int × Int)) × Unit → Option (Bool)
  | 0, _ => none
  | k + 1, (b0, b1, b2, ()) =>
    if b0 < ((List.length b1 : Nat) : Int) then
     if 0 ≤ b0 then
      if b0 < ((List.length b1 : Nat) : Int) then
       if 0 ≤ b0 then
        if b0 < ((List.length b2 : Nat) : Int) then (laws_eqMsg k ((List.getD b1 (Int.toNat b0) (0, 0)), (List.getD b2 (Int.toNat b0) (0, 0)))).bind fun v0 =>
         if v0 = true then
          laws_eqMsgS_L4 laws_eqMsg k ((wrap64 (b0 + 1)), b1, b2, ())
         else
          some false else none
       else
        none
      else
       none
     else
      none
    else
     some true
def laws_eqMsgS_ (laws_eqMsg : Nat → (Int × Int) × (Int × Int) → Option (Bool)) (k : Nat) : ((List (Int × Int))) × ((List (Int × Int))) → Option (Bool)
  | (a0, a1) =>
  if ((List.length a0 : Nat) : Int) = ((List.length a1 : Nat) : Int) then
   laws_eqMsgS_L4 laws_eqMsg k (0, a0, a1, ())
  else
   some false
noncomputable def g_laws_eqMsgS : ((List (Int × Int))) × ((List (Int × Int))) → Option (Bool) := evG (laws_eqMsgS_ (fun _ => g_laws_eqMsg))
theorem e_laws_eqMsgS : ∀ x b, g_laws_eqMsgS x = some b → ∃ k, laws_eqMsgS_ (fun _ => g_laws_eqMsg) k x = some b := evG_e _
/- laws_eqLine -/
def con_laws_eqLine (f : Nat → ((List (Int × Int))) × ((List (Int × Int))) → Option (Bool)) : Con := ⟨[.agg [.sl (.pair (.int .i64) (.int .i64))], .agg [.sl (.pair (.int .i64) (.int .i64))]], 1, [.v false [.bool]], f⟩
def laws_eqLine_ (laws_eqMsgS : Nat → ((List (Int × Int))) × ((List (Int × Int))) → Option (Bool)) (k : Nat) : ((List (Int × Int))) × ((List (Int × Int))) → Option (Bool)
  | (a0, a1) =>
  (laws_eqMsgS k (a0, a1)).bind fun v0 =>
  if v0 = true then
   some true
  else
   some false
noncomputable def g_laws_eqLine : ((List (Int × Int))) × ((List (Int × Int))) → Option (Bool) := laws_eqLine_ (fun _ => g_laws_eqMsgS) 0
theorem e_laws_eqLine : ∀ x b, g_laws_eqLine x = some b → ∃ k, laws_eqLine_ (fun _ => g_laws_eqMsgS) k x = some b := fun x b h => ⟨0, h⟩
/- laws_eqLineS -/
def con_laws_eqLineS (f : Nat → ((List (List (Int × Int)))) × ((List (List (Int × Int)))) → Option (Bool)) : Con := ⟨[.c (.nsl (.sl (.pair (.int .i64) (.int .i64)))), .c (.nsl (.sl (.pair (.int .i64) (.int .i64))))], 1, [.v false [.bool]], f⟩
def laws_eqLineS_L4 (laws_eqLine : Nat → ((List (Int × Int))) × ((List (Int × Int))) → Option (Bool)) : Nat → Int × (List (List (Int × Int))) × (List (List (Int × Int))) × Unit → Option (Bool)
  | 0, _ => none
  | k + 1, (b0, b1, b2, ()) =>
    if b0 < ((List.length b1 : Nat) : Int) then
     if 0 ≤ b0 then
      if b0 < ((List.length b1 : Nat) : Int) then
       if 0 ≤ b0 then
        if b0 < ((List.length b2 : Nat) : Int) then (laws_eqLine k ((List.getD b1 (Int.toNat b0) ([] : List (Int × Int))), (List.getD b2 (Int.toNat b0) ([] : List (Int × Int))))).bind fun v0 =>
         if v0 = true then
          laws_eqLineS_L4 laws_eqLine k ((wrap64 (b0 + 1)), b1, b2, ())
         else
          some false else none
       else
        none
      else
       none
     else
      none
    else
     some true
def laws_eqLineS_ (laws_eqLine : Nat → ((List (Int × Int))) × ((List (Int × Int))) → Option (Bool)) (k : Nat) : ((List (List (Int × Int)))) × ((List (List (Int × Int)))) → Option (Bool)
  | (a0, a1) =>
  if ((List.length a0 : Nat) : Int) = ((List.length a1 : Nat) : Int) then
   laws_eqLineS_L4 laws_eqLine k (0, a0, a1, ())
  else
   some false
noncomputable def g_laws_eqLineS : ((List (List (Int × Int)))) × ((List (List (Int × Int)))) → Option (Bool) := evG (laws_eqLineS_ (fun _ => g_laws_eqLine))
theorem e_laws_eqLineS : ∀ x b, g_laws_eqLineS x = some b → ∃ k, laws_eqLineS_ (fun _ => g_laws_eqLine) k x = some b := evG_e _
/- laws_eqCpu -/
def con_laws_eqCpu (f : Nat → (Int × List Int) × (Int × List Int) → Option (Bool)) : Con := ⟨[.agg [.int .i64, .sl (.int .i64)], .agg [.int .i64, .sl (.int .i64)]], 1, [.v false [.bool]], f⟩
def laws_eqCpu_ (laws_eqIntS : Nat → List Int × List Int → Option (Bool)) (k : Nat) : (Int × List Int) × (Int × List Int) → Option (Bool)
  | ((a0, a1), (a2, a3)) =>
  if a0 = a2 then
   (laws_eqIntS k (a1, a3)).bind fun v0 =>
   if v0 = true then
    some true
   else
    some false
  else
   some false
noncomputable def g_laws_eqCpu : (Int × List Int) × (Int × List Int) → Option (Bool) := laws_eqCpu_ (fun _ => g_laws_eqIntS) 0
theorem e_laws_eqCpu : ∀ x b, g_laws_eqCpu x = some b → ∃ k, laws_eqCpu_ (fun _ => g_laws_eqIntS) k x = some b := fun x b h => ⟨0, h⟩
/- laws_eqPart -/
def con_laws_eqPart (f : Nat → (Int × Int × List Int × Int × Int × Int) × (Int × Int × List Int × Int × Int × Int) → Option (Bool)) : Con := ⟨[.agg [.int .i64, .int .i64, .sl (.int .i64), .int .i64, .int .i64, .int .i64], .agg [.int .i64, .int .i64, .sl (.int .i64), .int .i64, .int .i64, .int .i64]], 1, [.v false [.bool]], f⟩
def laws_eqPart_ (laws_eqCpu : Nat → (Int × List Int) × (Int × List Int) → Option (Bool)) (k : Nat) : (Int × Int × List Int × Int × Int × Int) × (Int × Int × List Int × Int × Int × Int) → Option (Bool)
  | ((a0, a1, a2, a3, a4, a5), (a6, a7, a8, a9, a10, a11)) =>
  if a0 = a6 then
   (laws_eqCpu k ((a1, a2), (a7, a8))).bind fun v0 =>
   if v0 = true then
    if a3 = a9 then
     if a4 = a10 then
      if a5 = a11 then
       some true
      else
       some false
     else
      some false
    else
     some false
   else
    some false
  else
   some false
noncomputable def g_laws_eqPart : (Int × Int × List Int × Int × Int × Int) × (Int × Int × List Int × Int × Int × Int) → Option (Bool) := laws_eqPart_ (fun _ => g_laws_eqCpu) 0
theorem e_laws_eqPart : ∀ x b, g_laws_eqPart x = some b → ∃ k, laws_eqPart_ (fun _ => g_laws_eqCpu) k x = some b := fun x b h => ⟨0, h⟩
/- laws_eqPartS -/
def con_laws_eqPartS (f : Nat → ((List (Int × ((Int × (List Int)) × (Int × (Int × Int)))))) × ((List (Int × ((Int × (List Int)) × (Int × (Int × Int)))))) → Option (Bool)) : Con := ⟨[.c (.nsl (.pair (.f (.int .i64)) (.pair (.pair (.f (.int .i64)) (.sl (.int .i64))) (.pair (.f (.int .i64)) (.pair (.f (.int .i64)) (.f (.int .i64))))))), .c (.nsl (.pair (.f (.int .i64)) (.pair (.pair (.f (.int .i64)) (.sl (.int .i64))) (.pair (.f (.int .i64)) (.pair (.f (.int .i64)) (.f (.int .i64)))))))], 1, [.v false [.bool]], f⟩
def laws_eqPartS_L4 (laws_eqPart : Nat → (Int × Int × List Int × Int × Int × Int) × (Int × Int × List Int × Int × Int × Int) → Option (Bool)) : Nat → Int × (List (Int × ((Int × (List Int)) × (Int × (Int × Int))))) × (List (Int × ((Int × (List Int)) × (Int × (Int × Int))))) × Unit → Option (Bool)
  | 0, _ => none
  | k + 1, (b0, b1, b2, ()) =>
    if b0 < ((List.length b1 : Nat) : Int) then
     if 0 ≤ b0 then
      if b0 < ((List.length b1 : Nat) : Int) then
       if 0 ≤ b0 then
        if b0 < ((List.length b2 : Nat) : Int) then (laws_eqPart k (((List.getD b1 (Int.toNat b0) (0, ((0, ([] : List Int)), (0, (0, 0))))).1, ((List.getD b1 (Int.toNat b0) (0, ((0, ([] : List Int)), (0, (0, 0))))).2.1.1, ((List.getD b1 (Int.toNat b0) (0, ((0, ([] : List Int)), (0, (0, 0))))).2.1.2, (List.getD b1 (Int.toNat b0) (0, ((0, ([] : List Int)), (0, (0, 0))))).2.2))), ((List.getD b2 (Int.toNat b0) (0, ((0, ([] : List Int)), (0, (0, 0))))).1, ((List.getD b2 (Int.toNat b0) (0, ((0, ([] : List Int)), (0, (0, 0))))).2.1.1, ((List.getD b2 (Int.toNat b0) (0, ((0, ([] : List Int)), (0, (0, 0))))).2.1.2, (List.getD b2 (Int.toNat b0) (0, ((0, ([] : List Int)), (0, (0, 0))))).2.2))))).bind fun v0 =>
         if v0 = true then
          laws_eqPartS_L4 laws_eqPart k ((wrap64 (b0 + 1)), b1, b2, ())
         else
          some false else none
       else
        none
      else
       none
     else
      none
    else
     some true
def laws_eqPartS_ (laws_eqPart : Nat → (Int × Int × List Int × Int × Int × Int) × (Int × Int × List Int × Int × Int × Int) → Option (Bool)) (k : Nat) : ((List (Int × ((Int × (List Int)) × (Int × (Int × Int)))))) × ((List (Int × ((Int × (List Int)) × (Int × (Int × Int)))))) → Option (Bool)
  | (a0, a1) =>
  if ((List.length a0 : Nat) : Int) = ((List.length a1 : Nat) : Int) then
   laws_eqPartS_L4 laws_eqPart k (0, a0, a1, ())
  else
   some false
noncomputable def g_laws_eqPartS : ((List (Int × ((Int × (List Int)) × (Int × (Int × Int)))))) × ((List (Int × ((Int × (List Int)) × (Int × (Int × Int)))))) → Option (Bool) := evG (laws_eqPartS_ (fun _ => g_laws_eqPart))
theorem e_laws_eqPartS : ∀ x b, g_laws_eqPartS x = some b → ∃ k, laws_eqPartS_ (fun _ => g_laws_eqPart) k x = some b := evG_e _
/- laws_eqArena -/
def con_laws_eqArena (f : Nat → List Int × List Int → Option (Bool)) : Con := ⟨[.agg [.sl (.int .i64)], .agg [.sl (.int .i64)]], 1, [.v false [.bool]], f⟩
def laws_eqArena_ (laws_eqIntS : Nat → List Int × List Int → Option (Bool)) (k : Nat) : List Int × List Int → Option (Bool)
  | (a0, a1) =>
  (laws_eqIntS k (a0, a1)).bind fun v0 =>
  if v0 = true then
   some true
  else
   some false
noncomputable def g_laws_eqArena : List Int × List Int → Option (Bool) := laws_eqArena_ (fun _ => g_laws_eqIntS) 0
theorem e_laws_eqArena : ∀ x b, g_laws_eqArena x = some b → ∃ k, laws_eqArena_ (fun _ => g_laws_eqIntS) k x = some b := fun x b h => ⟨0, h⟩
/- laws_eqStringS -/
def con_laws_eqStringS (f : Nat → List ByteArray × List ByteArray → Option (Bool)) : Con := ⟨[.c (.sl .str), .c (.sl .str)], 1, [.v false [.bool]], f⟩
def laws_eqStringS_L4 : Nat → Int × List ByteArray × List ByteArray × Unit → Option (Bool)
  | 0, _ => none
  | k + 1, (b0, b1, b2, ()) =>
    if b0 < ((List.length b1 : Nat) : Int) then
     if 0 ≤ b0 then
      if b0 < ((List.length b1 : Nat) : Int) then
       if 0 ≤ b0 then
        if b0 < ((List.length b2 : Nat) : Int) then
         if (List.getD b1 (Int.toNat b0) (⟨#[]⟩ : ByteArray)) = (List.getD b2 (Int.toNat b0) (⟨#[]⟩ : ByteArray)) then
          laws_eqStringS_L4 k ((wrap64 (b0 + 1)), b1, b2, ())
         else
          some false
        else
         none
       else
        none
      else
       none
     else
      none
    else
     some true
def laws_eqStringS_ (k : Nat) : List ByteArray × List ByteArray → Option (Bool)
  | (a0, a1) =>
  if ((List.length a0 : Nat) : Int) = ((List.length a1 : Nat) : Int) then
   laws_eqStringS_L4 k (0, a0, a1, ())
  else
   some false
noncomputable def g_laws_eqStringS : List ByteArray × List ByteArray → Option (Bool) := evG (laws_eqStringS_ )
theorem e_laws_eqStringS : ∀ x b, g_laws_eqStringS x = some b → ∃ k, laws_eqStringS_  k x = some b := evG_e _
/- laws_eqRule -/
def con_laws_eqRule (f : Nat → (Int × Int × Int) × (Int × Int × Int) → Option (Bool)) : Con := ⟨[.agg [.int .i64, .int .i64, .int .i64], .agg [.int .i64, .int .i64, .int .i64]], 1, [.v false [.bool]], f⟩
def laws_eqRule_ (k : Nat) : (Int × Int × Int) × (Int × Int × Int) → Option (Bool)
  | ((a0, a1, a2), (a3, a4, a5)) =>
  if a0 = a3 then
   if a1 = a4 then
    if a2 = a5 then
     some true
    else
     some false
   else
    some false
  else
   some false
noncomputable def g_laws_eqRule : (Int × Int × Int) × (Int × Int × Int) → Option (Bool) := laws_eqRule_  0
theorem e_laws_eqRule : ∀ x b, g_laws_eqRule x = some b → ∃ k, laws_eqRule_  k x = some b := fun x b h => ⟨0, h⟩
/- laws_eqRuleS -/
def con_laws_eqRuleS (f : Nat → ((List (Int × (Int × Int)))) × ((List (Int × (Int × Int)))) → Option (Bool)) : Con := ⟨[.c (.sl (.pair (.int .i64) (.pair (.int .i64) (.int .i64)))), .c (.sl (.pair (.int .i64) (.pair (.int .i64) (.int .i64))))], 1, [.v false [.bool]], f⟩
def laws_eqRuleS_L4 (laws_eqRule : Nat → (Int × Int × Int) × (Int × Int × Int) → Option (Bool)) : Nat → Int × (List (Int × (Int × Int))) × (List (Int × (Int × Int))) × Unit → Option (Bool)
  | 0, _ => none
  | k + 1, (b0, b1, b2, ()) =>
    if b0 < ((List.length b1 : Nat) : Int) then
     if 0 ≤ b0 then
      if b0 < ((List.length b1 : Nat) : Int) then
       if 0 ≤ b0 then
        if b0 < ((List.length b2 : Nat) : Int) then (laws_eqRule k ((List.getD b1 (Int.toNat b0) (0, (0, 0))), (List.getD b2 (Int.toNat b0) (0, (0, 0))))).bind fun v0 =>
         if v0 = true then
          laws_eqRuleS_L4 laws_eqRule k ((wrap64 (b0 + 1)), b1, b2, ())
         else
          some false else none
       else
        none
      else
       none
     else
      none
    else
     some true
def laws_eqRuleS_ (laws_eqRule : Nat → (Int × Int × Int) × (Int × Int × Int) → Option (Bool)) (k : Nat) : ((List (Int × (Int × Int)))) × ((List (Int × (Int × Int)))) → Option (Bool)
  | (a0, a1) =>
  if ((List.length a0 : Nat) : Int) = ((List.length a1 : Nat) : Int) then
   laws_eqRuleS_L4 laws_eqRule k (0, a0, a1, ())
  else
   some false
noncomputable def g_laws_eqRuleS : ((List (Int × (Int × Int)))) × ((List (Int × (Int × Int)))) → Option (Bool) := evG (laws_eqRuleS_ (fun _ => g_laws_eqRule))
theorem e_laws_eqRuleS : ∀ x b, g_laws_eqRuleS x = some b → ∃ k, laws_eqRuleS_ (fun _ => g_laws_eqRule) k x = some b := evG_e _
/- laws_eqPort -/
def con_laws_eqPort (f : Nat → (Int × Int × Int × Int × Int) × (Int × Int × Int × Int × Int) → Option (Bool)) : Con := ⟨[.agg [.int .i64, .int .i64, .int .i64, .int .i64, .int .i64], .agg [.int .i64, .int .i64, .int .i64, .int .i64, .int .i64]], 1, [.v false [.bool]], f⟩
def laws_eqPort_ (k : Nat) : (Int × Int × Int × Int × Int) × (Int × Int × Int × Int × Int) → Option (Bool)
  | ((a0, a1, a2, a3, a4), (a5, a6, a7, a8, a9)) =>
  if a0 = a5 then
   if a1 = a6 then
    if a2 = a7 then
     if a3 = a8 then
      if a4 = a9 then
       some true
      else
       some false
     else
      some false
    else
     some false
   else
    some false
  else
   some false
noncomputable def g_laws_eqPort : (Int × Int × Int × Int × Int) × (Int × Int × Int × Int × Int) → Option (Bool) := laws_eqPort_  0
theorem e_laws_eqPort : ∀ x b, g_laws_eqPort x = some b → ∃ k, laws_eqPort_  k x = some b := fun x b h => ⟨0, h⟩
/- laws_eqPortS -/
def con_laws_eqPortS (f : Nat → ((List (Int × (Int × (Int × (Int × Int)))))) × ((List (Int × (Int × (Int × (Int × Int)))))) → Option (Bool)) : Con := ⟨[.c (.sl (.pair (.int .i64) (.pair (.int .i64) (.pair (.int .i64) (.pair (.int .i64) (.int .i64)))))), .c (.sl (.pair (.int .i64) (.pair (.int .i64) (.pair (.int .i64) (.pair (.int .i64) (.int .i64))))))], 1, [.v false [.bool]], f⟩
def laws_eqPortS_L4 (laws_eqPort : Nat → (Int × Int × Int × Int × Int) × (Int × Int × Int × Int × Int) → Option (Bool)) : Nat → Int × (List (Int × (Int × (Int × (Int × Int))))) × (List (Int × (Int × (Int × (Int × Int))))) × Unit → Option (Bool)
  | 0, _ => none
  | k + 1, (b0, b1, b2, ()) =>
    if b0 < ((List.length b1 : Nat) : Int) then
     if 0 ≤ b0 then
      if b0 < ((List.length b1 : Nat) : Int) then
       if 0 ≤ b0 then
        if b0 < ((List.length b2 : Nat) : Int) then (laws_eqPort k ((List.getD b1 (Int.toNat b0) (0, (0, (0, (0, 0))))), (List.getD b2 (Int.toNat b0) (0, (0, (0, (0, 0))))))).bind fun v0 =>
         if v0 = true then
          laws_eqPortS_L4 laws_eqPort k ((wrap64 (b0 + 1)), b1, b2, ())
         else
          some false else none
       else
        none
      else
       none
     else
      none
    else
     some true
def laws_eqPortS_ (laws_eqPort : Nat → (Int × Int × Int × Int × Int) × (Int × Int × Int × Int × Int) → Option (Bool)) (k : Nat) : ((List (Int × (Int × (Int × (Int × Int)))))) × ((List (Int × (Int × (Int × (Int × Int)))))) → Option (Bool)
  | (a0, a1) =>
  if ((List.length a0 : Nat) : Int) = ((List.length a1 : Nat) : Int) then
   laws_eqPortS_L4 laws_eqPort k (0, a0, a1, ())
  else
   some false
noncomputable def g_laws_eqPortS : ((List (Int × (Int × (Int × (Int × Int)))))) × ((List (Int × (Int × (Int × (Int × Int)))))) → Option (Bool) := evG (laws_eqPortS_ (fun _ => g_laws_eqPort))
theorem e_laws_eqPortS : ∀ x b, g_laws_eqPortS x = some b → ∃ k, laws_eqPortS_ (fun _ => g_laws_eqPort) k x = some b := evG_e _
/- laws_eqWindow -/
def con_laws_eqWindow (f : Nat → (Int × Int) × (Int × Int) → Option (Bool)) : Con := ⟨[.agg [.int .i64, .int .i64], .agg [.int .i64, .int .i64]], 1, [.v false [.bool]], f⟩
def laws_eqWindow_ (k : Nat) : (Int × Int) × (Int × Int) → Option (Bool)
  | ((a0, a1), (a2, a3)) =>
  if a0 = a2 then
   if a1 = a3 then
    some true
   else
    some false
  else
   some false
noncomputable def g_laws_eqWindow : (Int × Int) × (Int × Int) → Option (Bool) := laws_eqWindow_  0
theorem e_laws_eqWindow : ∀ x b, g_laws_eqWindow x = some b → ∃ k, laws_eqWindow_  k x = some b := fun x b h => ⟨0, h⟩
/- laws_eqWindowS -/
def con_laws_eqWindowS (f : Nat → ((List (Int × Int))) × ((List (Int × Int))) → Option (Bool)) : Con := ⟨[.c (.sl (.pair (.int .i64) (.int .i64))), .c (.sl (.pair (.int .i64) (.int .i64)))], 1, [.v false [.bool]], f⟩
def laws_eqWindowS_L4 (laws_eqWindow : Nat → (Int × Int) × (Int × Int) → Option (Bool)) : Nat → Int × (List (Int × Int)) × (List (Int × Int)) × Unit → Option (Bool)
  | 0, _ => none
  | k + 1, (b0, b1, b2, ()) =>
    if b0 < ((List.length b1 : Nat) : Int) then
     if 0 ≤ b0 then
      if b0 < ((List.length b1 : Nat) : Int) then
       if 0 ≤ b0 then
        if b0 < ((List.length b2 : Nat) : Int) then (laws_eqWindow k ((List.getD b1 (Int.toNat b0) (0, 0)), (List.getD b2 (Int.toNat b0) (0, 0)))).bind fun v0 =>
         if v0 = true then
          laws_eqWindowS_L4 laws_eqWindow k ((wrap64 (b0 + 1)), b1, b2, ())
         else
          some false else none
       else
        none
      else
       none
     else
      none
    else
     some true
def laws_eqWindowS_ (laws_eqWindow : Nat → (Int × Int) × (Int × Int) → Option (Bool)) (k : Nat) : ((List (Int × Int))) × ((List (Int × Int))) → Option (Bool)
  | (a0, a1) =>
  if ((List.length a0 : Nat) : Int) = ((List.length a1 : Nat) : Int) then
   laws_eqWindowS_L4 laws_eqWindow k (0, a0, a1, ())
  else
   some false
noncomputable def g_laws_eqWindowS : ((List (Int × Int))) × ((List (Int × Int))) → Option (Bool) := evG (laws_eqWindowS_ (fun _ => g_laws_eqWindow))
theorem e_laws_eqWindowS : ∀ x b, g_laws_eqWindowS x = some b → ∃ k, laws_eqWindowS_ (fun _ => g_laws_eqWindow) k x = some b := evG_e _
/- laws_eqRegion -/
def con_laws_eqRegion (f : Nat → (Int × Int) × (Int × Int) → Option (Bool)) : Con := ⟨[.agg [.int .i64, .int .i64], .agg [.int .i64, .int .i64]], 1, [.v false [.bool]], f⟩
def laws_eqRegion_ (k : Nat) : (Int × Int) × (Int × Int) → Option (Bool)
  | ((a0, a1), (a2, a3)) =>
  if a0 = a2 then
   if a1 = a3 then
    some true
   else
    some false
  else
   some false
noncomputable def g_laws_eqRegion : (Int × Int) × (Int × Int) → Option (Bool) := laws_eqRegion_  0
theorem e_laws_eqRegion : ∀ x b, g_laws_eqRegion x = some b → ∃ k, laws_eqRegion_  k x = some b := fun x b h => ⟨0, h⟩
/- laws_eqRegionS -/
def con_laws_eqRegionS (f : Nat → ((List (Int × Int))) × ((List (Int × Int))) → Option (Bool)) : Con := ⟨[.c (.sl (.pair (.int .i64) (.int .i64))), .c (.sl (.pair (.int .i64) (.int .i64)))], 1, [.v false [.bool]], f⟩
def laws_eqRegionS_L4 (laws_eqRegion : Nat → (Int × Int) × (Int × Int) → Option (Bool)) : Nat → Int × (List (Int × Int)) × (List (Int × Int)) × Unit → Option (Bool)
  | 0, _ => none
  | k + 1, (b0, b1, b2, ()) =>
    if b0 < ((List.length b1 : Nat) : Int) then
     if 0 ≤ b0 then
      if b0 < ((List.length b1 : Nat) : Int) then
       if 0 ≤ b0 then
        if b0 < ((List.length b2 : Nat) : Int) then (laws_eqRegion k ((List.getD b1 (Int.toNat b0) (0, 0)), (List.getD b2 (Int.toNat b0) (0, 0)))).bind fun v0 =>
         if v0 = true then
          laws_eqRegionS_L4 laws_eqRegion k ((wrap64 (b0 + 1)), b1, b2, ())
         else
          some false else none
       else
        none
      else
       none
     else
      none
    else
     some true
def laws_eqRegionS_ (laws_eqRegion : Nat → (Int × Int) × (Int × Int) → Option (Bool)) (k : Nat) : ((List (Int × Int))) × ((List (Int × Int))) → Option (Bool)
  | (a0, a1) =>
  if ((List.length a0 : Nat) : Int) = ((List.length a1 : Nat) : Int) then
   laws_eqRegionS_L4 laws_eqRegion k (0, a0, a1, ())
  else
   some false
noncomputable def g_laws_eqRegionS : ((List (Int × Int))) × ((List (Int × Int))) → Option (Bool) := evG (laws_eqRegionS_ (fun _ => g_laws_eqRegion))
theorem e_laws_eqRegionS : ∀ x b, g_laws_eqRegionS x = some b → ∃ k, laws_eqRegionS_ (fun _ => g_laws_eqRegion) k x = some b := evG_e _
/- laws_eqSetup -/
def con_laws_eqSetup (f : Nat → ((List (Int × Int)) × (List (Int × Int)) × (List (Int × (Int × (Int × (Int × Int))))) × (List (Int × (Int × Int))) × List ByteArray) × ((List (Int × Int)) × (List (Int × Int)) × (List (Int × (Int × (Int × (Int × Int))))) × (List (Int × (Int × Int))) × List ByteArray) → Option (Bool)) : Con := ⟨[.agg [.sl (.pair (.int .i64) (.int .i64)), .sl (.pair (.int .i64) (.int .i64)), .sl (.pair (.int .i64) (.pair (.int .i64) (.pair (.int .i64) (.pair (.int .i64) (.int .i64))))), .sl (.pair (.int .i64) (.pair (.int .i64) (.int .i64))), .sl .str], .agg [.sl (.pair (.int .i64) (.int .i64)), .sl (.pair (.int .i64) (.int .i64)), .sl (.pair (.int .i64) (.pair (.int .i64) (.pair (.int .i64) (.pair (.int .i64) (.int .i64))))), .sl (.pair (.int .i64) (.pair (.int .i64) (.int .i64))), .sl .str]], 1, [.v false [.bool]], f⟩
def laws_eqSetup_ (laws_eqPortS : Nat → ((List (Int × (Int × (Int × (Int × Int)))))) × ((List (Int × (Int × (Int × (Int × Int)))))) → Option (Bool)) (laws_eqRegionS : Nat → ((List (Int × Int))) × ((List (Int × Int))) → Option (Bool)) (laws_eqRuleS : Nat → ((List (Int × (Int × Int)))) × ((List (Int × (Int × Int)))) → Option (Bool)) (laws_eqStringS : Nat → List ByteArray × List ByteArray → Option (Bool)) (laws_eqWindowS : Nat → ((List (Int × Int))) × ((List (Int × Int))) → Option (Bool)) (k : Nat) : ((List (Int × Int)) × (List (Int × Int)) × (List (Int × (Int × (Int × (Int × Int))))) × (List (Int × (Int × Int))) × List ByteArray) × ((List (Int × Int)) × (List (Int × Int)) × (List (Int × (Int × (Int × (Int × Int))))) × (List (Int × (Int × Int))) × List ByteArray) → Option (Bool)
  | ((a0, a1, a2, a3, a4), (a5, a6, a7, a8, a9)) =>
  (laws_eqRegionS k (a0, a5)).bind fun v0 =>
  if v0 = true then
   (laws_eqWindowS k (a1, a6)).bind fun v1 =>
   if v1 = true then
    (laws_eqPortS k (a2, a7)).bind fun v2 =>
    if v2 = true then
     (laws_eqRuleS k (a3, a8)).bind fun v3 =>
     if v3 = true then
      (laws_eqStringS k (a4, a9)).bind fun v4 =>
      if v4 = true then
       some true
      else
       some false
     else
      some false
    else
     some false
   else
    some false
  else
   some false
noncomputable def g_laws_eqSetup : ((List (Int × Int)) × (List (Int × Int)) × (List (Int × (Int × (Int × (Int × Int))))) × (List (Int × (Int × Int))) × List ByteArray) × ((List (Int × Int)) × (List (Int × Int)) × (List (Int × (Int × (Int × (Int × Int))))) × (List (Int × (Int × Int))) × List ByteArray) → Option (Bool) := laws_eqSetup_ (fun _ => g_laws_eqPortS) (fun _ => g_laws_eqRegionS) (fun _ => g_laws_eqRuleS) (fun _ => g_laws_eqStringS) (fun _ => g_laws_eqWindowS) 0
theorem e_laws_eqSetup : ∀ x b, g_laws_eqSetup x = some b → ∃ k, laws_eqSetup_ (fun _ => g_laws_eqPortS) (fun _ => g_laws_eqRegionS) (fun _ => g_laws_eqRuleS) (fun _ => g_laws_eqStringS) (fun _ => g_laws_eqWindowS) k x = some b := fun x b h => ⟨0, h⟩
/- laws_szIntS -/
def con_laws_szIntS (f : Nat → List Int × Int → Option (Int)) : Con := ⟨[.c (.sl (.int .i64)), .c (.int .i64)], 1, [.v false [.int .i64]], f⟩
def laws_szIntS_ (k : Nat) : List Int × Int → Option (Int)
  | (a0, a1) =>
  if (wrap64 (a1 - ((List.length a0 : Nat) : Int))) < 0 then
   some (-1)
  else
   some (wrap64 (a1 - ((List.length a0 : Nat) : Int)))
noncomputable def g_laws_szIntS : List Int × Int → Option (Int) := laws_szIntS_  0
theorem e_laws_szIntS : ∀ x b, g_laws_szIntS x = some b → ∃ k, laws_szIntS_  k x = some b := fun x b h => ⟨0, h⟩
/- laws_szArena -/
def con_laws_szArena (f : Nat → List Int × Int → Option (Int)) : Con := ⟨[.agg [.sl (.int .i64)], .c (.int .i64)], 1, [.v false [.int .i64]], f⟩
def laws_szArena_ (laws_szIntS : Nat → List Int × Int → Option (Int)) (k : Nat) : List Int × Int → Option (Int)
  | (a0, a1) =>
  (laws_szIntS k (a0, a1)).bind fun v0 =>
  if v0 < 0 then
   some (-1)
  else
   some v0
noncomputable def g_laws_szArena : List Int × Int → Option (Int) := laws_szArena_ (fun _ => g_laws_szIntS) 0
theorem e_laws_szArena : ∀ x b, g_laws_szArena x = some b → ∃ k, laws_szArena_ (fun _ => g_laws_szIntS) k x = some b := fun x b h => ⟨0, h⟩
/- laws_szEntryS -/
def con_laws_szEntryS (f : Nat → ((List (Int × (Int × (Int × (Int × Int)))))) × Int → Option (Int)) : Con := ⟨[.c (.sl (.pair (.int .i64) (.pair (.int .i64) (.pair (.int .i64) (.pair (.int .i64) (.int .i64)))))), .c (.int .i64)], 1, [.v false [.int .i64]], f⟩
def laws_szEntryS_ (k : Nat) : ((List (Int × (Int × (Int × (Int × Int)))))) × Int → Option (Int)
  | (a0, a1) =>
  if (wrap64 (a1 - ((List.length a0 : Nat) : Int))) < 0 then
   some (-1)
  else
   some (wrap64 (a1 - ((List.length a0 : Nat) : Int)))
noncomputable def g_laws_szEntryS : ((List (Int × (Int × (Int × (Int × Int)))))) × Int → Option (Int) := laws_szEntryS_  0
theorem e_laws_szEntryS : ∀ x b, g_laws_szEntryS x = some b → ∃ k, laws_szEntryS_  k x = some b := fun x b h => ⟨0, h⟩
/- laws_szMsgS -/
def con_laws_szMsgS (f : Nat → ((List (Int × Int))) × Int → Option (Int)) : Con := ⟨[.c (.sl (.pair (.int .i64) (.int .i64))), .c (.int .i64)], 1, [.v false [.int .i64]], f⟩
def laws_szMsgS_ (k : Nat) : ((List (Int × Int))) × Int → Option (Int)
  | (a0, a1) =>
  if (wrap64 (a1 - ((List.length a0 : Nat) : Int))) < 0 then
   some (-1)
  else
   some (wrap64 (a1 - ((List.length a0 : Nat) : Int)))
noncomputable def g_laws_szMsgS : ((List (Int × Int))) × Int → Option (Int) := laws_szMsgS_  0
theorem e_laws_szMsgS : ∀ x b, g_laws_szMsgS x = some b → ∃ k, laws_szMsgS_  k x = some b := fun x b h => ⟨0, h⟩
/- laws_szLine -/
def con_laws_szLine (f : Nat → ((List (Int × Int))) × Int → Option (Int)) : Con := ⟨[.agg [.sl (.pair (.int .i64) (.int .i64))], .c (.int .i64)], 1, [.v false [.int .i64]], f⟩
def laws_szLine_ (laws_szMsgS : Nat → ((List (Int × Int))) × Int → Option (Int)) (k : Nat) : ((List (Int × Int))) × Int → Option (Int)
  | (a0, a1) =>
  (laws_szMsgS k (a0, a1)).bind fun v0 =>
  if v0 < 0 then
   some (-1)
  else
   some v0
noncomputable def g_laws_szLine : ((List (Int × Int))) × Int → Option (Int) := laws_szLine_ (fun _ => g_laws_szMsgS) 0
theorem e_laws_szLine : ∀ x b, g_laws_szLine x = some b → ∃ k, laws_szLine_ (fun _ => g_laws_szMsgS) k x = some b := fun x b h => ⟨0, h⟩
/- laws_szLineS -/
def con_laws_szLineS (f : Nat → ((List (List (Int × Int)))) × Int → Option (Int)) : Con := ⟨[.c (.nsl (.sl (.pair (.int .i64) (.int .i64)))), .c (.int .i64)], 1, [.v false [.int .i64]], f⟩
def laws_szLineS_L5 (laws_szLine : Nat → ((List (Int × Int))) × Int → Option (Int)) : Nat → Int × Int × (List (List (Int × Int))) × Unit → Option (Int)
  | 0, _ => none
  | k + 1, (b0, b1, b2, ()) =>
    if b1 < ((List.length b2 : Nat) : Int) then
     if 0 ≤ b1 then
      if b1 < ((List.length b2 : Nat) : Int) then (laws_szLine k ((List.getD b2 (Int.toNat b1) ([] : List (Int × Int))), b0)).bind fun v0 =>
       if v0 < 0 then
        some (-1)
       else
        laws_szLineS_L5 laws_szLine k (v0, (wrap64 (b1 + 1)), b2, ()) else none
     else
      none
    else
     some b0
def laws_szLineS_ (laws_szLine : Nat → ((List (Int × Int))) × Int → Option (Int)) (k : Nat) : ((List (List (Int × Int)))) × Int → Option (Int)
  | (a0, a1) =>
  if (wrap64 (a1 - ((List.length a0 : Nat) : Int))) < 0 then
   some (-1)
  else
   laws_szLineS_L5 laws_szLine k ((wrap64 (a1 - ((List.length a0 : Nat) : Int))), 0, a0, ())
noncomputable def g_laws_szLineS : ((List (List (Int × Int)))) × Int → Option (Int) := evG (laws_szLineS_ (fun _ => g_laws_szLine))
theorem e_laws_szLineS : ∀ x b, g_laws_szLineS x = some b → ∃ k, laws_szLineS_ (fun _ => g_laws_szLine) k x = some b := evG_e _
/- laws_szCpu -/
def con_laws_szCpu (f : Nat → (Int × List Int) × Int → Option (Int)) : Con := ⟨[.agg [.int .i64, .sl (.int .i64)], .c (.int .i64)], 1, [.v false [.int .i64]], f⟩
def laws_szCpu_ (laws_szIntS : Nat → List Int × Int → Option (Int)) (k : Nat) : (Int × List Int) × Int → Option (Int)
  | ((a0, a1), a2) =>
  (laws_szIntS k (a1, a2)).bind fun v0 =>
  if v0 < 0 then
   some (-1)
  else
   some v0
noncomputable def g_laws_szCpu : (Int × List Int) × Int → Option (Int) := laws_szCpu_ (fun _ => g_laws_szIntS) 0
theorem e_laws_szCpu : ∀ x b, g_laws_szCpu x = some b → ∃ k, laws_szCpu_ (fun _ => g_laws_szIntS) k x = some b := fun x b h => ⟨0, h⟩
/- laws_szPart -/
def con_laws_szPart (f : Nat → (Int × Int × List Int × Int × Int × Int) × Int → Option (Int)) : Con := ⟨[.agg [.int .i64, .int .i64, .sl (.int .i64), .int .i64, .int .i64, .int .i64], .c (.int .i64)], 1, [.v false [.int .i64]], f⟩
def laws_szPart_ (laws_szCpu : Nat → (Int × List Int) × Int → Option (Int)) (k : Nat) : (Int × Int × List Int × Int × Int × Int) × Int → Option (Int)
  | ((a0, a1, a2, a3, a4, a5), a6) =>
  (laws_szCpu k ((a1, a2), a6)).bind fun v0 =>
  if v0 < 0 then
   some (-1)
  else
   some v0
noncomputable def g_laws_szPart : (Int × Int × List Int × Int × Int × Int) × Int → Option (Int) := laws_szPart_ (fun _ => g_laws_szCpu) 0
theorem e_laws_szPart : ∀ x b, g_laws_szPart x = some b → ∃ k, laws_szPart_ (fun _ => g_laws_szCpu) k x = some b := fun x b h => ⟨0, h⟩
/- laws_szPartS -/
def con_laws_szPartS (f : Nat → ((List (Int × ((Int × (List Int)) × (Int × (Int × Int)))))) × Int → Option (Int)) : Con := ⟨[.c (.nsl (.pair (.f (.int .i64)) (.pair (.pair (.f (.int .i64)) (.sl (.int .i64))) (.pair (.f (.int .i64)) (.pair (.f (.int .i64)) (.f (.int .i64))))))), .c (.int .i64)], 1, [.v false [.int .i64]], f⟩
def laws_szPartS_L5 (laws_szPart : Nat → (Int × Int × List Int × Int × Int × Int) × Int → Option (Int)) : Nat → Int × Int × (List (Int × ((Int × (List Int)) × (Int × (Int × Int))))) × Unit → Option (Int)
  | 0, _ => none
  | k + 1, (b0, b1, b2, ()) =>
    if b1 < ((List.length b2 : Nat) : Int) then
     if 0 ≤ b1 then
      if b1 < ((List.length b2 : Nat) : Int) then (laws_szPart k (((List.getD b2 (Int.toNat b1) (0, ((0, ([] : List Int)), (0, (0, 0))))).1, ((List.getD b2 (Int.toNat b1) (0, ((0, ([] : List Int)), (0, (0, 0))))).2.1.1, ((List.getD b2 (Int.toNat b1) (0, ((0, ([] : List Int)), (0, (0, 0))))).2.1.2, (List.getD b2 (Int.toNat b1) (0, ((0, ([] : List Int)), (0, (0, 0))))).2.2))), b0)).bind fun v0 =>
       if v0 < 0 then
        some (-1)
       else
        laws_szPartS_L5 laws_szPart k (v0, (wrap64 (b1 + 1)), b2, ()) else none
     else
      none
    else
     some b0
def laws_szPartS_ (laws_szPart : Nat → (Int × Int × List Int × Int × Int × Int) × Int → Option (Int)) (k : Nat) : ((List (Int × ((Int × (List Int)) × (Int × (Int × Int)))))) × Int → Option (Int)
  | (a0, a1) =>
  if (wrap64 (a1 - ((List.length a0 : Nat) : Int))) < 0 then
   some (-1)
  else
   laws_szPartS_L5 laws_szPart k ((wrap64 (a1 - ((List.length a0 : Nat) : Int))), 0, a0, ())
noncomputable def g_laws_szPartS : ((List (Int × ((Int × (List Int)) × (Int × (Int × Int)))))) × Int → Option (Int) := evG (laws_szPartS_ (fun _ => g_laws_szPart))
theorem e_laws_szPartS : ∀ x b, g_laws_szPartS x = some b → ∃ k, laws_szPartS_ (fun _ => g_laws_szPart) k x = some b := evG_e _
/- laws_szPortS -/
def con_laws_szPortS (f : Nat → ((List (Int × (Int × (Int × (Int × Int)))))) × Int → Option (Int)) : Con := ⟨[.c (.sl (.pair (.int .i64) (.pair (.int .i64) (.pair (.int .i64) (.pair (.int .i64) (.int .i64)))))), .c (.int .i64)], 1, [.v false [.int .i64]], f⟩
def laws_szPortS_ (k : Nat) : ((List (Int × (Int × (Int × (Int × Int)))))) × Int → Option (Int)
  | (a0, a1) =>
  if (wrap64 (a1 - ((List.length a0 : Nat) : Int))) < 0 then
   some (-1)
  else
   some (wrap64 (a1 - ((List.length a0 : Nat) : Int)))
noncomputable def g_laws_szPortS : ((List (Int × (Int × (Int × (Int × Int)))))) × Int → Option (Int) := laws_szPortS_  0
theorem e_laws_szPortS : ∀ x b, g_laws_szPortS x = some b → ∃ k, laws_szPortS_  k x = some b := fun x b h => ⟨0, h⟩
/- laws_szRegionS -/
def con_laws_szRegionS (f : Nat → ((List (Int × Int))) × Int → Option (Int)) : Con := ⟨[.c (.sl (.pair (.int .i64) (.int .i64))), .c (.int .i64)], 1, [.v false [.int .i64]], f⟩
def laws_szRegionS_ (k : Nat) : ((List (Int × Int))) × Int → Option (Int)
  | (a0, a1) =>
  if (wrap64 (a1 - ((List.length a0 : Nat) : Int))) < 0 then
   some (-1)
  else
   some (wrap64 (a1 - ((List.length a0 : Nat) : Int)))
noncomputable def g_laws_szRegionS : ((List (Int × Int))) × Int → Option (Int) := laws_szRegionS_  0
theorem e_laws_szRegionS : ∀ x b, g_laws_szRegionS x = some b → ∃ k, laws_szRegionS_  k x = some b := fun x b h => ⟨0, h⟩
/- laws_szRuleS -/
def con_laws_szRuleS (f : Nat → ((List (Int × (Int × Int)))) × Int → Option (Int)) : Con := ⟨[.c (.sl (.pair (.int .i64) (.pair (.int .i64) (.int .i64)))), .c (.int .i64)], 1, [.v false [.int .i64]], f⟩
def laws_szRuleS_ (k : Nat) : ((List (Int × (Int × Int)))) × Int → Option (Int)
  | (a0, a1) =>
  if (wrap64 (a1 - ((List.length a0 : Nat) : Int))) < 0 then
   some (-1)
  else
   some (wrap64 (a1 - ((List.length a0 : Nat) : Int)))
noncomputable def g_laws_szRuleS : ((List (Int × (Int × Int)))) × Int → Option (Int) := laws_szRuleS_  0
theorem e_laws_szRuleS : ∀ x b, g_laws_szRuleS x = some b → ∃ k, laws_szRuleS_  k x = some b := fun x b h => ⟨0, h⟩
/- laws_szStringS -/
def con_laws_szStringS (f : Nat → List ByteArray × Int → Option (Int)) : Con := ⟨[.c (.sl .str), .c (.int .i64)], 1, [.v false [.int .i64]], f⟩
def laws_szStringS_L5 : Nat → Int × Int × List ByteArray × Unit → Option (Int)
  | 0, _ => none
  | k + 1, (b0, b1, b2, ()) =>
    if b1 < ((List.length b2 : Nat) : Int) then
     if 0 ≤ b1 then
      if b1 < ((List.length b2 : Nat) : Int) then
       if (wrap64 (b0 - ((ByteArray.size (List.getD b2 (Int.toNat b1) (⟨#[]⟩ : ByteArray)) : Nat) : Int))) < 0 then
        some (-1)
       else
        laws_szStringS_L5 k ((wrap64 (b0 - ((ByteArray.size (List.getD b2 (Int.toNat b1) (⟨#[]⟩ : ByteArray)) : Nat) : Int))), (wrap64 (b1 + 1)), b2, ())
      else
       none
     else
      none
    else
     some b0
def laws_szStringS_ (k : Nat) : List ByteArray × Int → Option (Int)
  | (a0, a1) =>
  if (wrap64 (a1 - ((List.length a0 : Nat) : Int))) < 0 then
   some (-1)
  else
   laws_szStringS_L5 k ((wrap64 (a1 - ((List.length a0 : Nat) : Int))), 0, a0, ())
noncomputable def g_laws_szStringS : List ByteArray × Int → Option (Int) := evG (laws_szStringS_ )
theorem e_laws_szStringS : ∀ x b, g_laws_szStringS x = some b → ∃ k, laws_szStringS_  k x = some b := evG_e _
/- laws_szWindowS -/
def con_laws_szWindowS (f : Nat → ((List (Int × Int))) × Int → Option (Int)) : Con := ⟨[.c (.sl (.pair (.int .i64) (.int .i64))), .c (.int .i64)], 1, [.v false [.int .i64]], f⟩
def laws_szWindowS_ (k : Nat) : ((List (Int × Int))) × Int → Option (Int)
  | (a0, a1) =>
  if (wrap64 (a1 - ((List.length a0 : Nat) : Int))) < 0 then
   some (-1)
  else
   some (wrap64 (a1 - ((List.length a0 : Nat) : Int)))
noncomputable def g_laws_szWindowS : ((List (Int × Int))) × Int → Option (Int) := laws_szWindowS_  0
theorem e_laws_szWindowS : ∀ x b, g_laws_szWindowS x = some b → ∃ k, laws_szWindowS_  k x = some b := fun x b h => ⟨0, h⟩
/- laws_szSetup -/
def con_laws_szSetup (f : Nat → ((List (Int × Int)) × (List (Int × Int)) × (List (Int × (Int × (Int × (Int × Int))))) × (List (Int × (Int × Int))) × List ByteArray) × Int → Option (Int)) : Con := ⟨[.agg [.sl (.pair (.int .i64) (.int .i64)), .sl (.pair (.int .i64) (.int .i64)), .sl (.pair (.int .i64) (.pair (.int .i64) (.pair (.int .i64) (.pair (.int .i64) (.int .i64))))), .sl (.pair (.int .i64) (.pair (.int .i64) (.int .i64))), .sl .str], .c (.int .i64)], 1, [.v false [.int .i64]], f⟩
def laws_szSetup_ (laws_szPortS : Nat → ((List (Int × (Int × (Int × (Int × Int)))))) × Int → Option (Int)) (laws_szRegionS : Nat → ((List (Int × Int))) × Int → Option (Int)) (laws_szRuleS : Nat → ((List (Int × (Int × Int)))) × Int → Option (Int)) (laws_szStringS : Nat → List ByteArray × Int → Option (Int)) (laws_szWindowS : Nat → ((List (Int × Int))) × Int → Option (Int)) (k : Nat) : ((List (Int × Int)) × (List (Int × Int)) × (List (Int × (Int × (Int × (Int × Int))))) × (List (Int × (Int × Int))) × List ByteArray) × Int → Option (Int)
  | ((a0, a1, a2, a3, a4), a5) =>
  (laws_szRegionS k (a0, a5)).bind fun v0 =>
  if v0 < 0 then
   some (-1)
  else
   (laws_szWindowS k (a1, v0)).bind fun v1 =>
   if v1 < 0 then
    some (-1)
   else
    (laws_szPortS k (a2, v1)).bind fun v2 =>
    if v2 < 0 then
     some (-1)
    else
     (laws_szRuleS k (a3, v2)).bind fun v3 =>
     if v3 < 0 then
      some (-1)
     else
      (laws_szStringS k (a4, v3)).bind fun v4 =>
      if v4 < 0 then
       some (-1)
      else
       some v4
noncomputable def g_laws_szSetup : ((List (Int × Int)) × (List (Int × Int)) × (List (Int × (Int × (Int × (Int × Int))))) × (List (Int × (Int × Int))) × List ByteArray) × Int → Option (Int) := laws_szSetup_ (fun _ => g_laws_szPortS) (fun _ => g_laws_szRegionS) (fun _ => g_laws_szRuleS) (fun _ => g_laws_szStringS) (fun _ => g_laws_szWindowS) 0
theorem e_laws_szSetup : ∀ x b, g_laws_szSetup x = some b → ∃ k, laws_szSetup_ (fun _ => g_laws_szPortS) (fun _ => g_laws_szRegionS) (fun _ => g_laws_szRuleS) (fun _ => g_laws_szStringS) (fun _ => g_laws_szWindowS) k x = some b := fun x b h => ⟨0, h⟩
/- laws_szKernel -/
def con_laws_szKernel (f : Nat → ((List (Int × Int)) × (List (Int × Int)) × (List (Int × (Int × (Int × (Int × Int))))) × (List (Int × (Int × Int))) × List ByteArray × List Int × (List (Int × ((Int × (List Int)) × (Int × (Int × Int))))) × (List (List (Int × Int))) × List Int × Int × Bool × (List (Int × (Int × (Int × (Int × Int)))))) × Int → Option (Int)) : Con := ⟨[.agg [.sl (.pair (.int .i64) (.int .i64)), .sl (.pair (.int .i64) (.int .i64)), .sl (.pair (.int .i64) (.pair (.int .i64) (.pair (.int .i64) (.pair (.int .i64) (.int .i64))))), .sl (.pair (.int .i64) (.pair (.int .i64) (.int .i64))), .sl .str, .sl (.int .i64), .nsl (.pair (.f (.int .i64)) (.pair (.pair (.f (.int .i64)) (.sl (.int .i64))) (.pair (.f (.int .i64)) (.pair (.f (.int .i64)) (.f (.int .i64)))))), .nsl (.sl (.pair (.int .i64) (.int .i64))), .sl (.int .i64), .int .i64, .bool, .sl (.pair (.int .i64) (.pair (.int .i64) (.pair (.int .i64) (.pair (.int .i64) (.int .i64)))))], .c (.int .i64)], 1, [.v false [.int .i64]], f⟩
def laws_szKernel_ (laws_szArena : Nat → List Int × Int → Option (Int)) (laws_szEntryS : Nat → ((List (Int × (Int × (Int × (Int × Int)))))) × Int → Option (Int)) (laws_szIntS : Nat → List Int × Int → Option (Int)) (laws_szLineS : Nat → ((List (List (Int × Int)))) × Int → Option (Int)) (laws_szPartS : Nat → ((List (Int × ((Int × (List Int)) × (Int × (Int × Int)))))) × Int → Option (Int)) (laws_szSetup : Nat → ((List (Int × Int)) × (List (Int × Int)) × (List (Int × (Int × (Int × (Int × Int))))) × (List (Int × (Int × Int))) × List ByteArray) × Int → Option (Int)) (k : Nat) : ((List (Int × Int)) × (List (Int × Int)) × (List (Int × (Int × (Int × (Int × Int))))) × (List (Int × (Int × Int))) × List ByteArray × List Int × (List (Int × ((Int × (List Int)) × (Int × (Int × Int))))) × (List (List (Int × Int))) × List Int × Int × Bool × (List (Int × (Int × (Int × (Int × Int)))))) × Int → Option (Int)
  | ((a0, a1, a2, a3, a4, a5, a6, a7, a8, a9, a10, a11), a12) =>
  (laws_szSetup k ((a0, (a1, (a2, (a3, a4)))), a12)).bind fun v0 =>
  if v0 < 0 then
   some (-1)
  else
   (laws_szArena k (a5, v0)).bind fun v1 =>
   if v1 < 0 then
    some (-1)
   else
    (laws_szPartS k (a6, v1)).bind fun v2 =>
    if v2 < 0 then
     some (-1)
    else
     (laws_szLineS k (a7, v2)).bind fun v3 =>
     if v3 < 0 then
      some (-1)
     else
      (laws_szIntS k (a8, v3)).bind fun v4 =>
      if v4 < 0 then
       some (-1)
      else
       (laws_szEntryS k (a11, v4)).bind fun v5 =>
       if v5 < 0 then
        some (-1)
       else
        some v5
noncomputable def g_laws_szKernel : ((List (Int × Int)) × (List (Int × Int)) × (List (Int × (Int × (Int × (Int × Int))))) × (List (Int × (Int × Int))) × List ByteArray × List Int × (List (Int × ((Int × (List Int)) × (Int × (Int × Int))))) × (List (List (Int × Int))) × List Int × Int × Bool × (List (Int × (Int × (Int × (Int × Int)))))) × Int → Option (Int) := laws_szKernel_ (fun _ => g_laws_szArena) (fun _ => g_laws_szEntryS) (fun _ => g_laws_szIntS) (fun _ => g_laws_szLineS) (fun _ => g_laws_szPartS) (fun _ => g_laws_szSetup) 0
theorem e_laws_szKernel : ∀ x b, g_laws_szKernel x = some b → ∃ k, laws_szKernel_ (fun _ => g_laws_szArena) (fun _ => g_laws_szEntryS) (fun _ => g_laws_szIntS) (fun _ => g_laws_szLineS) (fun _ => g_laws_szPartS) (fun _ => g_laws_szSetup) k x = some b := fun x b h => ⟨0, h⟩
/- laws_eqKernel -/
def con_laws_eqKernel (f : Nat → ((List (Int × Int)) × (List (Int × Int)) × (List (Int × (Int × (Int × (Int × Int))))) × (List (Int × (Int × Int))) × List ByteArray × List Int × (List (Int × ((Int × (List Int)) × (Int × (Int × Int))))) × (List (List (Int × Int))) × List Int × Int × Bool × (List (Int × (Int × (Int × (Int × Int)))))) × ((List (Int × Int)) × (List (Int × Int)) × (List (Int × (Int × (Int × (Int × Int))))) × (List (Int × (Int × Int))) × List ByteArray × List Int × (List (Int × ((Int × (List Int)) × (Int × (Int × Int))))) × (List (List (Int × Int))) × List Int × Int × Bool × (List (Int × (Int × (Int × (Int × Int)))))) → Option (Bool)) : Con := ⟨[.agg [.sl (.pair (.int .i64) (.int .i64)), .sl (.pair (.int .i64) (.int .i64)), .sl (.pair (.int .i64) (.pair (.int .i64) (.pair (.int .i64) (.pair (.int .i64) (.int .i64))))), .sl (.pair (.int .i64) (.pair (.int .i64) (.int .i64))), .sl .str, .sl (.int .i64), .nsl (.pair (.f (.int .i64)) (.pair (.pair (.f (.int .i64)) (.sl (.int .i64))) (.pair (.f (.int .i64)) (.pair (.f (.int .i64)) (.f (.int .i64)))))), .nsl (.sl (.pair (.int .i64) (.int .i64))), .sl (.int .i64), .int .i64, .bool, .sl (.pair (.int .i64) (.pair (.int .i64) (.pair (.int .i64) (.pair (.int .i64) (.int .i64)))))], .agg [.sl (.pair (.int .i64) (.int .i64)), .sl (.pair (.int .i64) (.int .i64)), .sl (.pair (.int .i64) (.pair (.int .i64) (.pair (.int .i64) (.pair (.int .i64) (.int .i64))))), .sl (.pair (.int .i64) (.pair (.int .i64) (.int .i64))), .sl .str, .sl (.int .i64), .nsl (.pair (.f (.int .i64)) (.pair (.pair (.f (.int .i64)) (.sl (.int .i64))) (.pair (.f (.int .i64)) (.pair (.f (.int .i64)) (.f (.int .i64)))))), .nsl (.sl (.pair (.int .i64) (.int .i64))), .sl (.int .i64), .int .i64, .bool, .sl (.pair (.int .i64) (.pair (.int .i64) (.pair (.int .i64) (.pair (.int .i64) (.int .i64)))))]], 1, [.v false [.bool]], f⟩
def laws_eqKernel_ (laws_eqArena : Nat → List Int × List Int → Option (Bool)) (laws_eqEntryS : Nat → ((List (Int × (Int × (Int × (Int × Int)))))) × ((List (Int × (Int × (Int × (Int × Int)))))) → Option (Bool)) (laws_eqIntS : Nat → List Int × List Int → Option (Bool)) (laws_eqLineS : Nat → ((List (List (Int × Int)))) × ((List (List (Int × Int)))) → Option (Bool)) (laws_eqPartS : Nat → ((List (Int × ((Int × (List Int)) × (Int × (Int × Int)))))) × ((List (Int × ((Int × (List Int)) × (Int × (Int × Int)))))) → Option (Bool)) (laws_eqSetup : Nat → ((List (Int × Int)) × (List (Int × Int)) × (List (Int × (Int × (Int × (Int × Int))))) × (List (Int × (Int × Int))) × List ByteArray) × ((List (Int × Int)) × (List (Int × Int)) × (List (Int × (Int × (Int × (Int × Int))))) × (List (Int × (Int × Int))) × List ByteArray) → Option (Bool)) (k : Nat) : ((List (Int × Int)) × (List (Int × Int)) × (List (Int × (Int × (Int × (Int × Int))))) × (List (Int × (Int × Int))) × List ByteArray × List Int × (List (Int × ((Int × (List Int)) × (Int × (Int × Int))))) × (List (List (Int × Int))) × List Int × Int × Bool × (List (Int × (Int × (Int × (Int × Int)))))) × ((List (Int × Int)) × (List (Int × Int)) × (List (Int × (Int × (Int × (Int × Int))))) × (List (Int × (Int × Int))) × List ByteArray × List Int × (List (Int × ((Int × (List Int)) × (Int × (Int × Int))))) × (List (List (Int × Int))) × List Int × Int × Bool × (List (Int × (Int × (Int × (Int × Int)))))) → Option (Bool)
  | ((a0, a1, a2, a3, a4, a5, a6, a7, a8, a9, a10, a11), (a12, a13, a14, a15, a16, a17, a18, a19, a20, a21, a22, a23)) =>
  (laws_eqSetup k ((a0, (a1, (a2, (a3, a4)))), (a12, (a13, (a14, (a15, a16)))))).bind fun v0 =>
  if v0 = true then
   (laws_eqArena k (a5, a17)).bind fun v1 =>
   if v1 = true then
    (laws_eqPartS k (a6, a18)).bind fun v2 =>
    if v2 = true then
     (laws_eqLineS k (a7, a19)).bind fun v3 =>
     if v3 = true then
      (laws_eqIntS k (a8, a20)).bind fun v4 =>
      if v4 = true then
       if a9 = a21 then
        if (a10 == a22) = true then
         (laws_eqEntryS k (a11, a23)).bind fun v5 =>
         if v5 = true then
          some true
         else
          some false
        else
         some false
       else
        some false
      else
       some false
     else
      some false
    else
     some false
   else
    some false
  else
   some false
noncomputable def g_laws_eqKernel : ((List (Int × Int)) × (List (Int × Int)) × (List (Int × (Int × (Int × (Int × Int))))) × (List (Int × (Int × Int))) × List ByteArray × List Int × (List (Int × ((Int × (List Int)) × (Int × (Int × Int))))) × (List (List (Int × Int))) × List Int × Int × Bool × (List (Int × (Int × (Int × (Int × Int)))))) × ((List (Int × Int)) × (List (Int × Int)) × (List (Int × (Int × (Int × (Int × Int))))) × (List (Int × (Int × Int))) × List ByteArray × List Int × (List (Int × ((Int × (List Int)) × (Int × (Int × Int))))) × (List (List (Int × Int))) × List Int × Int × Bool × (List (Int × (Int × (Int × (Int × Int)))))) → Option (Bool) := laws_eqKernel_ (fun _ => g_laws_eqArena) (fun _ => g_laws_eqEntryS) (fun _ => g_laws_eqIntS) (fun _ => g_laws_eqLineS) (fun _ => g_laws_eqPartS) (fun _ => g_laws_eqSetup) 0
theorem e_laws_eqKernel : ∀ x b, g_laws_eqKernel x = some b → ∃ k, laws_eqKernel_ (fun _ => g_laws_eqArena) (fun _ => g_laws_eqEntryS) (fun _ => g_laws_eqIntS) (fun _ => g_laws_eqLineS) (fun _ => g_laws_eqPartS) (fun _ => g_laws_eqSetup) k x = some b := fun x b h => ⟨0, h⟩
/- laws_toEntry -/
def con_laws_toEntry (f : Nat → (Int × Int × Int × Int × Int) → Option ((Int × Int × Int × Int × Int))) : Con := ⟨[.agg [.int .i64, .int .i64, .int .i64, .int .i64, .int .i64]], 1, [.v true [.int .i64, .int .i64, .int .i64, .int .i64, .int .i64]], f⟩
def laws_toEntry_ (k : Nat) : (Int × Int × Int × Int × Int) → Option ((Int × Int × Int × Int × Int))
  | (a0, a1, a2, a3, a4) =>
  some (a0, (a1, (a2, (a3, a4))))
noncomputable def g_laws_toEntry : (Int × Int × Int × Int × Int) → Option ((Int × Int × Int × Int × Int)) := laws_toEntry_  0
theorem e_laws_toEntry : ∀ x b, g_laws_toEntry x = some b → ∃ k, laws_toEntry_  k x = some b := fun x b h => ⟨0, h⟩
/- laws_toEntryS -/
def con_laws_toEntryS (f : Nat → ((List (Int × (Int × (Int × (Int × Int)))))) → Option (((List (Int × (Int × (Int × (Int × Int)))))))) : Con := ⟨[.c (.sl (.pair (.int .i64) (.pair (.int .i64) (.pair (.int .i64) (.pair (.int .i64) (.int .i64))))))], 1, [.v false [.own (.pair (.int .i64) (.pair (.int .i64) (.pair (.int .i64) (.pair (.int .i64) (.int .i64))))) 172]], f⟩
def laws_toEntryS_L3 (laws_toEntry : Nat → (Int × Int × Int × Int × Int) → Option ((Int × Int × Int × Int × Int))) : Nat → Int × (List (Int × (Int × (Int × (Int × Int))))) × (List (Int × (Int × (Int × (Int × Int))))) × Unit → Option (((List (Int × (Int × (Int × (Int × Int)))))))
  | 0, _ => none
  | k + 1, (b0, b1, b2, ()) =>
    if b0 < ((List.length b1 : Nat) : Int) then
     if 0 ≤ b0 then
      if b0 < ((List.length b1 : Nat) : Int) then (laws_toEntry k (List.getD b1 (Int.toNat b0) (0, (0, (0, (0, 0)))))).bind fun v0 =>
       if 0 ≤ b0 then
        if b0 < ((List.length b2 : Nat) : Int) then laws_toEntryS_L3 laws_toEntry k ((wrap64 (b0 + 1)), b1, (List.set b2 (Int.toNat b0) v0), ()) else none
       else
        none else none
     else
      none
    else
     some b2
def laws_toEntryS_ (laws_toEntry : Nat → (Int × Int × Int × Int × Int) → Option ((Int × Int × Int × Int × Int))) (k : Nat) : ((List (Int × (Int × (Int × (Int × Int)))))) → Option (((List (Int × (Int × (Int × (Int × Int)))))))
  | a0 =>
  if ((List.length a0 : Nat) : Int) = ((List.length a0 : Nat) : Int) then
   if 0 ≤ ((List.length a0 : Nat) : Int) then
    if (((List.length a0 : Nat) : Int) * ((40 : Nat) : Int)) ≤ 140737488355328 then laws_toEntryS_L3 laws_toEntry k (0, a0, (List.replicate (Int.toNat ((List.length a0 : Nat) : Int)) (0, (0, (0, (0, 0))))), ()) else none
   else
    none
  else
   none
noncomputable def g_laws_toEntryS : ((List (Int × (Int × (Int × (Int × Int)))))) → Option (((List (Int × (Int × (Int × (Int × Int))))))) := evG (laws_toEntryS_ (fun _ => g_laws_toEntry))
theorem e_laws_toEntryS : ∀ x b, g_laws_toEntryS x = some b → ∃ k, laws_toEntryS_ (fun _ => g_laws_toEntry) k x = some b := evG_e _
/- laws_toIntS -/
def con_laws_toIntS (f : Nat → List Int → Option (List Int)) : Con := ⟨[.c (.sl (.int .i64))], 1, [.v false [.own (.int .i64) 3]], f⟩
def laws_toIntS_L3 : Nat → Int × List Int × List Int × Unit → Option (List Int)
  | 0, _ => none
  | k + 1, (b0, b1, b2, ()) =>
    if b0 < ((List.length b1 : Nat) : Int) then
     if 0 ≤ b0 then
      if b0 < ((List.length b1 : Nat) : Int) then
       if 0 ≤ b0 then
        if b0 < ((List.length b2 : Nat) : Int) then laws_toIntS_L3 k ((wrap64 (b0 + 1)), b1, (List.set b2 (Int.toNat b0) (List.getD b1 (Int.toNat b0) 0)), ()) else none
       else
        none
      else
       none
     else
      none
    else
     some b2
def laws_toIntS_ (k : Nat) : List Int → Option (List Int)
  | a0 =>
  if ((List.length a0 : Nat) : Int) = ((List.length a0 : Nat) : Int) then
   if 0 ≤ ((List.length a0 : Nat) : Int) then
    if (((List.length a0 : Nat) : Int) * ((8 : Nat) : Int)) ≤ 140737488355328 then laws_toIntS_L3 k (0, a0, (List.replicate (Int.toNat ((List.length a0 : Nat) : Int)) 0), ()) else none
   else
    none
  else
   none
noncomputable def g_laws_toIntS : List Int → Option (List Int) := evG (laws_toIntS_ )
theorem e_laws_toIntS : ∀ x b, g_laws_toIntS x = some b → ∃ k, laws_toIntS_  k x = some b := evG_e _
/- laws_toMsg -/
def con_laws_toMsg (f : Nat → (Int × Int) → Option ((Int × Int))) : Con := ⟨[.agg [.int .i64, .int .i64]], 1, [.v true [.int .i64, .int .i64]], f⟩
def laws_toMsg_ (k : Nat) : (Int × Int) → Option ((Int × Int))
  | (a0, a1) =>
  some (a0, a1)
noncomputable def g_laws_toMsg : (Int × Int) → Option ((Int × Int)) := laws_toMsg_  0
theorem e_laws_toMsg : ∀ x b, g_laws_toMsg x = some b → ∃ k, laws_toMsg_  k x = some b := fun x b h => ⟨0, h⟩
/- laws_toMsgS -/
def con_laws_toMsgS (f : Nat → ((List (Int × Int))) → Option (((List (Int × Int))))) : Con := ⟨[.c (.sl (.pair (.int .i64) (.int .i64)))], 1, [.v false [.own (.pair (.int .i64) (.int .i64)) 312]], f⟩
def laws_toMsgS_L3 (laws_toMsg : Nat → (Int × Int) → Option ((Int × Int))) : Nat → Int × (List (Int × Int)) × (List (Int × Int)) × Unit → Option (((List (Int × Int))))
  | 0, _ => none
  | k + 1, (b0, b1, b2, ()) =>
    if b0 < ((List.length b1 : Nat) : Int) then
     if 0 ≤ b0 then
      if b0 < ((List.length b1 : Nat) : Int) then (laws_toMsg k (List.getD b1 (Int.toNat b0) (0, 0))).bind fun v0 =>
       if 0 ≤ b0 then
        if b0 < ((List.length b2 : Nat) : Int) then laws_toMsgS_L3 laws_toMsg k ((wrap64 (b0 + 1)), b1, (List.set b2 (Int.toNat b0) v0), ()) else none
       else
        none else none
     else
      none
    else
     some b2
def laws_toMsgS_ (laws_toMsg : Nat → (Int × Int) → Option ((Int × Int))) (k : Nat) : ((List (Int × Int))) → Option (((List (Int × Int))))
  | a0 =>
  if ((List.length a0 : Nat) : Int) = ((List.length a0 : Nat) : Int) then
   if 0 ≤ ((List.length a0 : Nat) : Int) then
    if (((List.length a0 : Nat) : Int) * ((16 : Nat) : Int)) ≤ 140737488355328 then laws_toMsgS_L3 laws_toMsg k (0, a0, (List.replicate (Int.toNat ((List.length a0 : Nat) : Int)) (0, 0)), ()) else none
   else
    none
  else
   none
noncomputable def g_laws_toMsgS : ((List (Int × Int))) → Option (((List (Int × Int)))) := evG (laws_toMsgS_ (fun _ => g_laws_toMsg))
theorem e_laws_toMsgS : ∀ x b, g_laws_toMsgS x = some b → ∃ k, laws_toMsgS_ (fun _ => g_laws_toMsg) k x = some b := evG_e _
/- laws_toLine -/
def con_laws_toLine (f : Nat → ((List (Int × Int))) → Option (((List (Int × Int))))) : Con := ⟨[.agg [.sl (.pair (.int .i64) (.int .i64))]], 1, [.v true [.own (.pair (.int .i64) (.int .i64)) 312]], f⟩
def laws_toLine_ (laws_toMsgS : Nat → ((List (Int × Int))) → Option (((List (Int × Int))))) (k : Nat) : ((List (Int × Int))) → Option (((List (Int × Int))))
  | a0 =>
  (laws_toMsgS k a0).bind fun v0 =>
  some v0
noncomputable def g_laws_toLine : ((List (Int × Int))) → Option (((List (Int × Int)))) := laws_toLine_ (fun _ => g_laws_toMsgS) 0
theorem e_laws_toLine : ∀ x b, g_laws_toLine x = some b → ∃ k, laws_toLine_ (fun _ => g_laws_toMsgS) k x = some b := fun x b h => ⟨0, h⟩
/- laws_toLineS -/
def con_laws_toLineS (f : Nat → ((List (List (Int × Int)))) → Option (((List (List (Int × Int)))))) : Con := ⟨[.c (.nsl (.sl (.pair (.int .i64) (.int .i64))))], 1, [.v false [.nown (.sl (.pair (.int .i64) (.int .i64))) 227]], f⟩
def laws_toLineS_L3 (laws_toLine : Nat → ((List (Int × Int))) → Option (((List (Int × Int))))) : Nat → Int × (List (List (Int × Int))) × (List (List (Int × Int))) × Unit → Option (((List (List (Int × Int)))))
  | 0, _ => none
  | k + 1, (b0, b1, b2, ()) =>
    if b0 < ((List.length b1 : Nat) : Int) then
     if 0 ≤ b0 then
      if b0 < ((List.length b1 : Nat) : Int) then (laws_toLine k (List.getD b1 (Int.toNat b0) ([] : List (Int × Int)))).bind fun v0 =>
       if 0 ≤ b0 then
        if b0 < ((List.length b2 : Nat) : Int) then laws_toLineS_L3 laws_toLine k ((wrap64 (b0 + 1)), b1, (List.set b2 (Int.toNat b0) v0), ()) else none
       else
        none else none
     else
      none
    else
     some b2
def laws_toLineS_ (laws_toLine : Nat → ((List (Int × Int))) → Option (((List (Int × Int))))) (k : Nat) : ((List (List (Int × Int)))) → Option (((List (List (Int × Int)))))
  | a0 =>
  if ((List.length a0 : Nat) : Int) = ((List.length a0 : Nat) : Int) then
   if 0 ≤ ((List.length a0 : Nat) : Int) then
    if (((List.length a0 : Nat) : Int) * ((24 : Nat) : Int)) ≤ 140737488355328 then laws_toLineS_L3 laws_toLine k (0, a0, (List.replicate (Int.toNat ((List.length a0 : Nat) : Int)) ([] : List (Int × Int))), ()) else none
   else
    none
  else
   none
noncomputable def g_laws_toLineS : ((List (List (Int × Int)))) → Option (((List (List (Int × Int))))) := evG (laws_toLineS_ (fun _ => g_laws_toLine))
theorem e_laws_toLineS : ∀ x b, g_laws_toLineS x = some b → ∃ k, laws_toLineS_ (fun _ => g_laws_toLine) k x = some b := evG_e _
/- laws_toCpu -/
def con_laws_toCpu (f : Nat → (Int × List Int) → Option ((Int × List Int))) : Con := ⟨[.agg [.int .i64, .sl (.int .i64)]], 1, [.v true [.int .i64, .own (.int .i64) 3]], f⟩
def laws_toCpu_ (laws_toIntS : Nat → List Int → Option (List Int)) (k : Nat) : (Int × List Int) → Option ((Int × List Int))
  | (a0, a1) =>
  (laws_toIntS k a1).bind fun v0 =>
  some (a0, v0)
noncomputable def g_laws_toCpu : (Int × List Int) → Option ((Int × List Int)) := laws_toCpu_ (fun _ => g_laws_toIntS) 0
theorem e_laws_toCpu : ∀ x b, g_laws_toCpu x = some b → ∃ k, laws_toCpu_ (fun _ => g_laws_toIntS) k x = some b := fun x b h => ⟨0, h⟩
/- laws_toPart -/
def con_laws_toPart (f : Nat → (Int × Int × List Int × Int × Int × Int) → Option ((Int × Int × List Int × Int × Int × Int))) : Con := ⟨[.agg [.int .i64, .int .i64, .sl (.int .i64), .int .i64, .int .i64, .int .i64]], 1, [.v true [.int .i64, .int .i64, .own (.int .i64) 3, .int .i64, .int .i64, .int .i64]], f⟩
def laws_toPart_ (laws_toCpu : Nat → (Int × List Int) → Option ((Int × List Int))) (k : Nat) : (Int × Int × List Int × Int × Int × Int) → Option ((Int × Int × List Int × Int × Int × Int))
  | (a0, a1, a2, a3, a4, a5) =>
  (laws_toCpu k (a1, a2)).bind fun v0 =>
  some (a0, (v0.1, (v0.2, (a3, (a4, a5)))))
noncomputable def g_laws_toPart : (Int × Int × List Int × Int × Int × Int) → Option ((Int × Int × List Int × Int × Int × Int)) := laws_toPart_ (fun _ => g_laws_toCpu) 0
theorem e_laws_toPart : ∀ x b, g_laws_toPart x = some b → ∃ k, laws_toPart_ (fun _ => g_laws_toCpu) k x = some b := fun x b h => ⟨0, h⟩
/- laws_toPartS -/
def con_laws_toPartS (f : Nat → ((List (Int × ((Int × (List Int)) × (Int × (Int × Int)))))) → Option (((List (Int × ((Int × (List Int)) × (Int × (Int × Int)))))))) : Con := ⟨[.c (.nsl (.pair (.f (.int .i64)) (.pair (.pair (.f (.int .i64)) (.sl (.int .i64))) (.pair (.f (.int .i64)) (.pair (.f (.int .i64)) (.f (.int .i64)))))))], 1, [.v false [.nown (.pair (.f (.int .i64)) (.pair (.pair (.f (.int .i64)) (.sl (.int .i64))) (.pair (.f (.int .i64)) (.pair (.f (.int .i64)) (.f (.int .i64)))))) 147]], f⟩
def laws_toPartS_L3 (laws_toPart : Nat → (Int × Int × List Int × Int × Int × Int) → Option ((Int × Int × List Int × Int × Int × Int))) : Nat → Int × (List (Int × ((Int × (List Int)) × (Int × (Int × Int))))) × (List (Int × ((Int × (List Int)) × (Int × (Int × Int))))) × Unit → Option (((List (Int × ((Int × (List Int)) × (Int × (Int × Int)))))))
  | 0, _ => none
  | k + 1, (b0, b1, b2, ()) =>
    if b0 < ((List.length b1 : Nat) : Int) then
     if 0 ≤ b0 then
      if b0 < ((List.length b1 : Nat) : Int) then (laws_toPart k ((List.getD b1 (Int.toNat b0) (0, ((0, ([] : List Int)), (0, (0, 0))))).1, ((List.getD b1 (Int.toNat b0) (0, ((0, ([] : List Int)), (0, (0, 0))))).2.1.1, ((List.getD b1 (Int.toNat b0) (0, ((0, ([] : List Int)), (0, (0, 0))))).2.1.2, (List.getD b1 (Int.toNat b0) (0, ((0, ([] : List Int)), (0, (0, 0))))).2.2)))).bind fun v0 =>
       if 0 ≤ b0 then
        if b0 < ((List.length b2 : Nat) : Int) then laws_toPartS_L3 laws_toPart k ((wrap64 (b0 + 1)), b1, (List.set b2 (Int.toNat b0) (v0.1, ((v0.2.1, v0.2.2.1), v0.2.2.2))), ()) else none
       else
        none else none
     else
      none
    else
     some b2
def laws_toPartS_ (laws_toPart : Nat → (Int × Int × List Int × Int × Int × Int) → Option ((Int × Int × List Int × Int × Int × Int))) (k : Nat) : ((List (Int × ((Int × (List Int)) × (Int × (Int × Int)))))) → Option (((List (Int × ((Int × (List Int)) × (Int × (Int × Int)))))))
  | a0 =>
  if ((List.length a0 : Nat) : Int) = ((List.length a0 : Nat) : Int) then
   if 0 ≤ ((List.length a0 : Nat) : Int) then
    if (((List.length a0 : Nat) : Int) * ((64 : Nat) : Int)) ≤ 140737488355328 then laws_toPartS_L3 laws_toPart k (0, a0, (List.replicate (Int.toNat ((List.length a0 : Nat) : Int)) (0, ((0, ([] : List Int)), (0, (0, 0))))), ()) else none
   else
    none
  else
   none
noncomputable def g_laws_toPartS : ((List (Int × ((Int × (List Int)) × (Int × (Int × Int)))))) → Option (((List (Int × ((Int × (List Int)) × (Int × (Int × Int))))))) := evG (laws_toPartS_ (fun _ => g_laws_toPart))
theorem e_laws_toPartS : ∀ x b, g_laws_toPartS x = some b → ∃ k, laws_toPartS_ (fun _ => g_laws_toPart) k x = some b := evG_e _
/- laws_toArena -/
def con_laws_toArena (f : Nat → List Int → Option (List Int)) : Con := ⟨[.agg [.sl (.int .i64)]], 1, [.v true [.own (.int .i64) 3]], f⟩
def laws_toArena_ (laws_toIntS : Nat → List Int → Option (List Int)) (k : Nat) : List Int → Option (List Int)
  | a0 =>
  (laws_toIntS k a0).bind fun v0 =>
  some v0
noncomputable def g_laws_toArena : List Int → Option (List Int) := laws_toArena_ (fun _ => g_laws_toIntS) 0
theorem e_laws_toArena : ∀ x b, g_laws_toArena x = some b → ∃ k, laws_toArena_ (fun _ => g_laws_toIntS) k x = some b := fun x b h => ⟨0, h⟩
/- laws_toStringS -/
def con_laws_toStringS (f : Nat → List ByteArray → Option (List ByteArray)) : Con := ⟨[.c (.sl .str)], 1, [.v false [.own .str 9]], f⟩
def laws_toStringS_L3 : Nat → Int × List ByteArray × List ByteArray × Unit → Option (List ByteArray)
  | 0, _ => none
  | k + 1, (b0, b1, b2, ()) =>
    if b0 < ((List.length b1 : Nat) : Int) then
     if 0 ≤ b0 then
      if b0 < ((List.length b1 : Nat) : Int) then
       if 0 ≤ b0 then
        if b0 < ((List.length b2 : Nat) : Int) then laws_toStringS_L3 k ((wrap64 (b0 + 1)), b1, (List.set b2 (Int.toNat b0) (List.getD b1 (Int.toNat b0) (⟨#[]⟩ : ByteArray))), ()) else none
       else
        none
      else
       none
     else
      none
    else
     some b2
def laws_toStringS_ (k : Nat) : List ByteArray → Option (List ByteArray)
  | a0 =>
  if ((List.length a0 : Nat) : Int) = ((List.length a0 : Nat) : Int) then
   if 0 ≤ ((List.length a0 : Nat) : Int) then
    if (((List.length a0 : Nat) : Int) * ((16 : Nat) : Int)) ≤ 140737488355328 then laws_toStringS_L3 k (0, a0, (List.replicate (Int.toNat ((List.length a0 : Nat) : Int)) (⟨#[]⟩ : ByteArray)), ()) else none
   else
    none
  else
   none
noncomputable def g_laws_toStringS : List ByteArray → Option (List ByteArray) := evG (laws_toStringS_ )
theorem e_laws_toStringS : ∀ x b, g_laws_toStringS x = some b → ∃ k, laws_toStringS_  k x = some b := evG_e _
/- laws_toRule -/
def con_laws_toRule (f : Nat → (Int × Int × Int) → Option ((Int × Int × Int))) : Con := ⟨[.agg [.int .i64, .int .i64, .int .i64]], 1, [.v true [.int .i64, .int .i64, .int .i64]], f⟩
def laws_toRule_ (k : Nat) : (Int × Int × Int) → Option ((Int × Int × Int))
  | (a0, a1, a2) =>
  some (a0, (a1, a2))
noncomputable def g_laws_toRule : (Int × Int × Int) → Option ((Int × Int × Int)) := laws_toRule_  0
theorem e_laws_toRule : ∀ x b, g_laws_toRule x = some b → ∃ k, laws_toRule_  k x = some b := fun x b h => ⟨0, h⟩
/- laws_toRuleS -/
def con_laws_toRuleS (f : Nat → ((List (Int × (Int × Int)))) → Option (((List (Int × (Int × Int)))))) : Con := ⟨[.c (.sl (.pair (.int .i64) (.pair (.int .i64) (.int .i64))))], 1, [.v false [.own (.pair (.int .i64) (.pair (.int .i64) (.int .i64))) 259]], f⟩
def laws_toRuleS_L3 (laws_toRule : Nat → (Int × Int × Int) → Option ((Int × Int × Int))) : Nat → Int × (List (Int × (Int × Int))) × (List (Int × (Int × Int))) × Unit → Option (((List (Int × (Int × Int)))))
  | 0, _ => none
  | k + 1, (b0, b1, b2, ()) =>
    if b0 < ((List.length b1 : Nat) : Int) then
     if 0 ≤ b0 then
      if b0 < ((List.length b1 : Nat) : Int) then (laws_toRule k (List.getD b1 (Int.toNat b0) (0, (0, 0)))).bind fun v0 =>
       if 0 ≤ b0 then
        if b0 < ((List.length b2 : Nat) : Int) then laws_toRuleS_L3 laws_toRule k ((wrap64 (b0 + 1)), b1, (List.set b2 (Int.toNat b0) v0), ()) else none
       else
        none else none
     else
      none
    else
     some b2
def laws_toRuleS_ (laws_toRule : Nat → (Int × Int × Int) → Option ((Int × Int × Int))) (k : Nat) : ((List (Int × (Int × Int)))) → Option (((List (Int × (Int × Int)))))
  | a0 =>
  if ((List.length a0 : Nat) : Int) = ((List.length a0 : Nat) : Int) then
   if 0 ≤ ((List.length a0 : Nat) : Int) then
    if (((List.length a0 : Nat) : Int) * ((24 : Nat) : Int)) ≤ 140737488355328 then laws_toRuleS_L3 laws_toRule k (0, a0, (List.replicate (Int.toNat ((List.length a0 : Nat) : Int)) (0, (0, 0))), ()) else none
   else
    none
  else
   none
noncomputable def g_laws_toRuleS : ((List (Int × (Int × Int)))) → Option (((List (Int × (Int × Int))))) := evG (laws_toRuleS_ (fun _ => g_laws_toRule))
theorem e_laws_toRuleS : ∀ x b, g_laws_toRuleS x = some b → ∃ k, laws_toRuleS_ (fun _ => g_laws_toRule) k x = some b := evG_e _
/- laws_toPort -/
def con_laws_toPort (f : Nat → (Int × Int × Int × Int × Int) → Option ((Int × Int × Int × Int × Int))) : Con := ⟨[.agg [.int .i64, .int .i64, .int .i64, .int .i64, .int .i64]], 1, [.v true [.int .i64, .int .i64, .int .i64, .int .i64, .int .i64]], f⟩
def laws_toPort_ (k : Nat) : (Int × Int × Int × Int × Int) → Option ((Int × Int × Int × Int × Int))
  | (a0, a1, a2, a3, a4) =>
  some (a0, (a1, (a2, (a3, a4))))
noncomputable def g_laws_toPort : (Int × Int × Int × Int × Int) → Option ((Int × Int × Int × Int × Int)) := laws_toPort_  0
theorem e_laws_toPort : ∀ x b, g_laws_toPort x = some b → ∃ k, laws_toPort_  k x = some b := fun x b h => ⟨0, h⟩
/- laws_toPortS -/
def con_laws_toPortS (f : Nat → ((List (Int × (Int × (Int × (Int × Int)))))) → Option (((List (Int × (Int × (Int × (Int × Int)))))))) : Con := ⟨[.c (.sl (.pair (.int .i64) (.pair (.int .i64) (.pair (.int .i64) (.pair (.int .i64) (.int .i64))))))], 1, [.v false [.own (.pair (.int .i64) (.pair (.int .i64) (.pair (.int .i64) (.pair (.int .i64) (.int .i64))))) 247]], f⟩
def laws_toPortS_L3 (laws_toPort : Nat → (Int × Int × Int × Int × Int) → Option ((Int × Int × Int × Int × Int))) : Nat → Int × (List (Int × (Int × (Int × (Int × Int))))) × (List (Int × (Int × (Int × (Int × Int))))) × Unit → Option (((List (Int × (Int × (Int × (Int × Int)))))))
  | 0, _ => none
  | k + 1, (b0, b1, b2, ()) =>
    if b0 < ((List.length b1 : Nat) : Int) then
     if 0 ≤ b0 then
      if b0 < ((List.length b1 : Nat) : Int) then (laws_toPort k (List.getD b1 (Int.toNat b0) (0, (0, (0, (0, 0)))))).bind fun v0 =>
       if 0 ≤ b0 then
        if b0 < ((List.length b2 : Nat) : Int) then laws_toPortS_L3 laws_toPort k ((wrap64 (b0 + 1)), b1, (List.set b2 (Int.toNat b0) v0), ()) else none
       else
        none else none
     else
      none
    else
     some b2
def laws_toPortS_ (laws_toPort : Nat → (Int × Int × Int × Int × Int) → Option ((Int × Int × Int × Int × Int))) (k : Nat) : ((List (Int × (Int × (Int × (Int × Int)))))) → Option (((List (Int × (Int × (Int × (Int × Int)))))))
  | a0 =>
  if ((List.length a0 : Nat) : Int) = ((List.length a0 : Nat) : Int) then
   if 0 ≤ ((List.length a0 : Nat) : Int) then
    if (((List.length a0 : Nat) : Int) * ((40 : Nat) : Int)) ≤ 140737488355328 then laws_toPortS_L3 laws_toPort k (0, a0, (List.replicate (Int.toNat ((List.length a0 : Nat) : Int)) (0, (0, (0, (0, 0))))), ()) else none
   else
    none
  else
   none
noncomputable def g_laws_toPortS : ((List (Int × (Int × (Int × (Int × Int)))))) → Option (((List (Int × (Int × (Int × (Int × Int))))))) := evG (laws_toPortS_ (fun _ => g_laws_toPort))
theorem e_laws_toPortS : ∀ x b, g_laws_toPortS x = some b → ∃ k, laws_toPortS_ (fun _ => g_laws_toPort) k x = some b := evG_e _
/- laws_toWindow -/
def con_laws_toWindow (f : Nat → (Int × Int) → Option ((Int × Int))) : Con := ⟨[.agg [.int .i64, .int .i64]], 1, [.v true [.int .i64, .int .i64]], f⟩
def laws_toWindow_ (k : Nat) : (Int × Int) → Option ((Int × Int))
  | (a0, a1) =>
  some (a0, a1)
noncomputable def g_laws_toWindow : (Int × Int) → Option ((Int × Int)) := laws_toWindow_  0
theorem e_laws_toWindow : ∀ x b, g_laws_toWindow x = some b → ∃ k, laws_toWindow_  k x = some b := fun x b h => ⟨0, h⟩
/- laws_toWindowS -/
def con_laws_toWindowS (f : Nat → ((List (Int × Int))) → Option (((List (Int × Int))))) : Con := ⟨[.c (.sl (.pair (.int .i64) (.int .i64)))], 1, [.v false [.own (.pair (.int .i64) (.int .i64)) 102]], f⟩
def laws_toWindowS_L3 (laws_toWindow : Nat → (Int × Int) → Option ((Int × Int))) : Nat → Int × (List (Int × Int)) × (List (Int × Int)) × Unit → Option (((List (Int × Int))))
  | 0, _ => none
  | k + 1, (b0, b1, b2, ()) =>
    if b0 < ((List.length b1 : Nat) : Int) then
     if 0 ≤ b0 then
      if b0 < ((List.length b1 : Nat) : Int) then (laws_toWindow k (List.getD b1 (Int.toNat b0) (0, 0))).bind fun v0 =>
       if 0 ≤ b0 then
        if b0 < ((List.length b2 : Nat) : Int) then laws_toWindowS_L3 laws_toWindow k ((wrap64 (b0 + 1)), b1, (List.set b2 (Int.toNat b0) v0), ()) else none
       else
        none else none
     else
      none
    else
     some b2
def laws_toWindowS_ (laws_toWindow : Nat → (Int × Int) → Option ((Int × Int))) (k : Nat) : ((List (Int × Int))) → Option (((List (Int × Int))))
  | a0 =>
  if ((List.length a0 : Nat) : Int) = ((List.length a0 : Nat) : Int) then
   if 0 ≤ ((List.length a0 : Nat) : Int) then
    if (((List.length a0 : Nat) : Int) * ((16 : Nat) : Int)) ≤ 140737488355328 then laws_toWindowS_L3 laws_toWindow k (0, a0, (List.replicate (Int.toNat ((List.length a0 : Nat) : Int)) (0, 0)), ()) else none
   else
    none
  else
   none
noncomputable def g_laws_toWindowS : ((List (Int × Int))) → Option (((List (Int × Int)))) := evG (laws_toWindowS_ (fun _ => g_laws_toWindow))
theorem e_laws_toWindowS : ∀ x b, g_laws_toWindowS x = some b → ∃ k, laws_toWindowS_ (fun _ => g_laws_toWindow) k x = some b := evG_e _
/- laws_toRegion -/
def con_laws_toRegion (f : Nat → (Int × Int) → Option ((Int × Int))) : Con := ⟨[.agg [.int .i64, .int .i64]], 1, [.v true [.int .i64, .int .i64]], f⟩
def laws_toRegion_ (k : Nat) : (Int × Int) → Option ((Int × Int))
  | (a0, a1) =>
  some (a0, a1)
noncomputable def g_laws_toRegion : (Int × Int) → Option ((Int × Int)) := laws_toRegion_  0
theorem e_laws_toRegion : ∀ x b, g_laws_toRegion x = some b → ∃ k, laws_toRegion_  k x = some b := fun x b h => ⟨0, h⟩
/- laws_toRegionS -/
def con_laws_toRegionS (f : Nat → ((List (Int × Int))) → Option (((List (Int × Int))))) : Con := ⟨[.c (.sl (.pair (.int .i64) (.int .i64)))], 1, [.v false [.own (.pair (.int .i64) (.int .i64)) 218]], f⟩
def laws_toRegionS_L3 (laws_toRegion : Nat → (Int × Int) → Option ((Int × Int))) : Nat → Int × (List (Int × Int)) × (List (Int × Int)) × Unit → Option (((List (Int × Int))))
  | 0, _ => none
  | k + 1, (b0, b1, b2, ()) =>
    if b0 < ((List.length b1 : Nat) : Int) then
     if 0 ≤ b0 then
      if b0 < ((List.length b1 : Nat) : Int) then (laws_toRegion k (List.getD b1 (Int.toNat b0) (0, 0))).bind fun v0 =>
       if 0 ≤ b0 then
        if b0 < ((List.length b2 : Nat) : Int) then laws_toRegionS_L3 laws_toRegion k ((wrap64 (b0 + 1)), b1, (List.set b2 (Int.toNat b0) v0), ()) else none
       else
        none else none
     else
      none
    else
     some b2
def laws_toRegionS_ (laws_toRegion : Nat → (Int × Int) → Option ((Int × Int))) (k : Nat) : ((List (Int × Int))) → Option (((List (Int × Int))))
  | a0 =>
  if ((List.length a0 : Nat) : Int) = ((List.length a0 : Nat) : Int) then
   if 0 ≤ ((List.length a0 : Nat) : Int) then
    if (((List.length a0 : Nat) : Int) * ((16 : Nat) : Int)) ≤ 140737488355328 then laws_toRegionS_L3 laws_toRegion k (0, a0, (List.replicate (Int.toNat ((List.length a0 : Nat) : Int)) (0, 0)), ()) else none
   else
    none
  else
   none
noncomputable def g_laws_toRegionS : ((List (Int × Int))) → Option (((List (Int × Int)))) := evG (laws_toRegionS_ (fun _ => g_laws_toRegion))
theorem e_laws_toRegionS : ∀ x b, g_laws_toRegionS x = some b → ∃ k, laws_toRegionS_ (fun _ => g_laws_toRegion) k x = some b := evG_e _
/- laws_toSetup -/
def con_laws_toSetup (f : Nat → ((List (Int × Int)) × (List (Int × Int)) × (List (Int × (Int × (Int × (Int × Int))))) × (List (Int × (Int × Int))) × List ByteArray) → Option (((List (Int × Int)) × (List (Int × Int)) × (List (Int × (Int × (Int × (Int × Int))))) × (List (Int × (Int × Int))) × List ByteArray))) : Con := ⟨[.agg [.sl (.pair (.int .i64) (.int .i64)), .sl (.pair (.int .i64) (.int .i64)), .sl (.pair (.int .i64) (.pair (.int .i64) (.pair (.int .i64) (.pair (.int .i64) (.int .i64))))), .sl (.pair (.int .i64) (.pair (.int .i64) (.int .i64))), .sl .str]], 1, [.v true [.own (.pair (.int .i64) (.int .i64)) 218, .own (.pair (.int .i64) (.int .i64)) 102, .own (.pair (.int .i64) (.pair (.int .i64) (.pair (.int .i64) (.pair (.int .i64) (.int .i64))))) 247, .own (.pair (.int .i64) (.pair (.int .i64) (.int .i64))) 259, .own .str 9]], f⟩
def laws_toSetup_ (laws_toPortS : Nat → ((List (Int × (Int × (Int × (Int × Int)))))) → Option (((List (Int × (Int × (Int × (Int × Int)))))))) (laws_toRegionS : Nat → ((List (Int × Int))) → Option (((List (Int × Int))))) (laws_toRuleS : Nat → ((List (Int × (Int × Int)))) → Option (((List (Int × (Int × Int)))))) (laws_toStringS : Nat → List ByteArray → Option (List ByteArray)) (laws_toWindowS : Nat → ((List (Int × Int))) → Option (((List (Int × Int))))) (k : Nat) : ((List (Int × Int)) × (List (Int × Int)) × (List (Int × (Int × (Int × (Int × Int))))) × (List (Int × (Int × Int))) × List ByteArray) → Option (((List (Int × Int)) × (List (Int × Int)) × (List (Int × (Int × (Int × (Int × Int))))) × (List (Int × (Int × Int))) × List ByteArray))
  | (a0, a1, a2, a3, a4) =>
  (laws_toRegionS k a0).bind fun v0 =>
  (laws_toWindowS k a1).bind fun v1 =>
  (laws_toPortS k a2).bind fun v2 =>
  (laws_toRuleS k a3).bind fun v3 =>
  (laws_toStringS k a4).bind fun v4 =>
  some (v0, (v1, (v2, (v3, v4))))
noncomputable def g_laws_toSetup : ((List (Int × Int)) × (List (Int × Int)) × (List (Int × (Int × (Int × (Int × Int))))) × (List (Int × (Int × Int))) × List ByteArray) → Option (((List (Int × Int)) × (List (Int × Int)) × (List (Int × (Int × (Int × (Int × Int))))) × (List (Int × (Int × Int))) × List ByteArray)) := laws_toSetup_ (fun _ => g_laws_toPortS) (fun _ => g_laws_toRegionS) (fun _ => g_laws_toRuleS) (fun _ => g_laws_toStringS) (fun _ => g_laws_toWindowS) 0
theorem e_laws_toSetup : ∀ x b, g_laws_toSetup x = some b → ∃ k, laws_toSetup_ (fun _ => g_laws_toPortS) (fun _ => g_laws_toRegionS) (fun _ => g_laws_toRuleS) (fun _ => g_laws_toStringS) (fun _ => g_laws_toWindowS) k x = some b := fun x b h => ⟨0, h⟩
/- laws_toKernel -/
def con_laws_toKernel (f : Nat → ((List (Int × Int)) × (List (Int × Int)) × (List (Int × (Int × (Int × (Int × Int))))) × (List (Int × (Int × Int))) × List ByteArray × List Int × (List (Int × ((Int × (List Int)) × (Int × (Int × Int))))) × (List (List (Int × Int))) × List Int × Int × Bool × (List (Int × (Int × (Int × (Int × Int)))))) → Option (((List (Int × Int)) × (List (Int × Int)) × (List (Int × (Int × (Int × (Int × Int))))) × (List (Int × (Int × Int))) × List ByteArray × List Int × (List (Int × ((Int × (List Int)) × (Int × (Int × Int))))) × (List (List (Int × Int))) × List Int × Int × Bool × (List (Int × (Int × (Int × (Int × Int)))))))) : Con := ⟨[.agg [.sl (.pair (.int .i64) (.int .i64)), .sl (.pair (.int .i64) (.int .i64)), .sl (.pair (.int .i64) (.pair (.int .i64) (.pair (.int .i64) (.pair (.int .i64) (.int .i64))))), .sl (.pair (.int .i64) (.pair (.int .i64) (.int .i64))), .sl .str, .sl (.int .i64), .nsl (.pair (.f (.int .i64)) (.pair (.pair (.f (.int .i64)) (.sl (.int .i64))) (.pair (.f (.int .i64)) (.pair (.f (.int .i64)) (.f (.int .i64)))))), .nsl (.sl (.pair (.int .i64) (.int .i64))), .sl (.int .i64), .int .i64, .bool, .sl (.pair (.int .i64) (.pair (.int .i64) (.pair (.int .i64) (.pair (.int .i64) (.int .i64)))))]], 1, [.v true [.own (.pair (.int .i64) (.int .i64)) 218, .own (.pair (.int .i64) (.int .i64)) 102, .own (.pair (.int .i64) (.pair (.int .i64) (.pair (.int .i64) (.pair (.int .i64) (.int .i64))))) 247, .own (.pair (.int .i64) (.pair (.int .i64) (.int .i64))) 259, .own .str 9, .own (.int .i64) 3, .nown (.pair (.f (.int .i64)) (.pair (.pair (.f (.int .i64)) (.sl (.int .i64))) (.pair (.f (.int .i64)) (.pair (.f (.int .i64)) (.f (.int .i64)))))) 147, .nown (.sl (.pair (.int .i64) (.int .i64))) 227, .own (.int .i64) 3, .int .i64, .bool, .own (.pair (.int .i64) (.pair (.int .i64) (.pair (.int .i64) (.pair (.int .i64) (.int .i64))))) 172]], f⟩
def laws_toKernel_ (laws_toArena : Nat → List Int → Option (List Int)) (laws_toEntryS : Nat → ((List (Int × (Int × (Int × (Int × Int)))))) → Option (((List (Int × (Int × (Int × (Int × Int)))))))) (laws_toIntS : Nat → List Int → Option (List Int)) (laws_toLineS : Nat → ((List (List (Int × Int)))) → Option (((List (List (Int × Int)))))) (laws_toPartS : Nat → ((List (Int × ((Int × (List Int)) × (Int × (Int × Int)))))) → Option (((List (Int × ((Int × (List Int)) × (Int × (Int × Int)))))))) (laws_toSetup : Nat → ((List (Int × Int)) × (List (Int × Int)) × (List (Int × (Int × (Int × (Int × Int))))) × (List (Int × (Int × Int))) × List ByteArray) → Option (((List (Int × Int)) × (List (Int × Int)) × (List (Int × (Int × (Int × (Int × Int))))) × (List (Int × (Int × Int))) × List ByteArray))) (k : Nat) : ((List (Int × Int)) × (List (Int × Int)) × (List (Int × (Int × (Int × (Int × Int))))) × (List (Int × (Int × Int))) × List ByteArray × List Int × (List (Int × ((Int × (List Int)) × (Int × (Int × Int))))) × (List (List (Int × Int))) × List Int × Int × Bool × (List (Int × (Int × (Int × (Int × Int)))))) → Option (((List (Int × Int)) × (List (Int × Int)) × (List (Int × (Int × (Int × (Int × Int))))) × (List (Int × (Int × Int))) × List ByteArray × List Int × (List (Int × ((Int × (List Int)) × (Int × (Int × Int))))) × (List (List (Int × Int))) × List Int × Int × Bool × (List (Int × (Int × (Int × (Int × Int)))))))
  | (a0, a1, a2, a3, a4, a5, a6, a7, a8, a9, a10, a11) =>
  (laws_toSetup k (a0, (a1, (a2, (a3, a4))))).bind fun v0 =>
  (laws_toArena k a5).bind fun v1 =>
  (laws_toPartS k a6).bind fun v2 =>
  (laws_toLineS k a7).bind fun v3 =>
  (laws_toIntS k a8).bind fun v4 =>
  (laws_toEntryS k a11).bind fun v5 =>
  some (v0.1, (v0.2.1, (v0.2.2.1, (v0.2.2.2.1, (v0.2.2.2.2, (v1, (v2, (v3, (v4, (a9, (a10, v5)))))))))))
noncomputable def g_laws_toKernel : ((List (Int × Int)) × (List (Int × Int)) × (List (Int × (Int × (Int × (Int × Int))))) × (List (Int × (Int × Int))) × List ByteArray × List Int × (List (Int × ((Int × (List Int)) × (Int × (Int × Int))))) × (List (List (Int × Int))) × List Int × Int × Bool × (List (Int × (Int × (Int × (Int × Int)))))) → Option (((List (Int × Int)) × (List (Int × Int)) × (List (Int × (Int × (Int × (Int × Int))))) × (List (Int × (Int × Int))) × List ByteArray × List Int × (List (Int × ((Int × (List Int)) × (Int × (Int × Int))))) × (List (List (Int × Int))) × List Int × Int × Bool × (List (Int × (Int × (Int × (Int × Int))))))) := laws_toKernel_ (fun _ => g_laws_toArena) (fun _ => g_laws_toEntryS) (fun _ => g_laws_toIntS) (fun _ => g_laws_toLineS) (fun _ => g_laws_toPartS) (fun _ => g_laws_toSetup) 0
theorem e_laws_toKernel : ∀ x b, g_laws_toKernel x = some b → ∃ k, laws_toKernel_ (fun _ => g_laws_toArena) (fun _ => g_laws_toEntryS) (fun _ => g_laws_toIntS) (fun _ => g_laws_toLineS) (fun _ => g_laws_toPartS) (fun _ => g_laws_toSetup) k x = some b := fun x b h => ⟨0, h⟩
/- slices_Equal___int_int_ -/
def con_slices_Equal___int_int_ (f : Nat → List Int × List Int → Option (Bool)) : Con := ⟨[.c (.sl (.int .i64)), .c (.sl (.int .i64))], 1, [.v false [.bool]], f⟩
def slices_Equal___int_int__L4 : Nat → Int × Int × List Int × List Int × Unit → Option (Bool)
  | 0, _ => none
  | k + 1, (b0, b1, b2, b3, ()) =>
    if b1 < b0 then
     if 0 ≤ b1 then
      if b1 < ((List.length b2 : Nat) : Int) then
       if 0 ≤ b1 then
        if b1 < ((List.length b3 : Nat) : Int) then
         if (List.getD b2 (Int.toNat b1) 0) = (List.getD b3 (Int.toNat b1) 0) then
          slices_Equal___int_int__L4 k (b0, (wrap64 (b1 + 1)), b2, b3, ())
         else
          some false
        else
         none
       else
        none
      else
       none
     else
      none
    else
     some true
def slices_Equal___int_int__ (k : Nat) : List Int × List Int → Option (Bool)
  | (a0, a1) =>
  if ((List.length a0 : Nat) : Int) = ((List.length a1 : Nat) : Int) then
   slices_Equal___int_int__L4 k (((List.length a0 : Nat) : Int), 0, a0, a1, ())
  else
   some false
noncomputable def g_slices_Equal___int_int_ : List Int × List Int → Option (Bool) := evG (slices_Equal___int_int__ )
theorem e_slices_Equal___int_int_ : ∀ x b, g_slices_Equal___int_int_ x = some b → ∃ k, slices_Equal___int_int__  k x = some b := evG_e _
/- impl_samePart -/
def con_impl_samePart (f : Nat → (Int × Int × List Int × Int × Int × Int) × (Int × Int × List Int × Int × Int × Int) → Option (Bool)) : Con := ⟨[.agg [.int .i64, .int .i64, .sl (.int .i64), .int .i64, .int .i64, .int .i64], .agg [.int .i64, .int .i64, .sl (.int .i64), .int .i64, .int .i64, .int .i64]], 1, [.v false [.bool]], f⟩
def impl_samePart_ (slices_Equal___int_int_ : Nat → List Int × List Int → Option (Bool)) (k : Nat) : (Int × Int × List Int × Int × Int × Int) × (Int × Int × List Int × Int × Int × Int) → Option (Bool)
  | ((a0, a1, a2, a3, a4, a5), (a6, a7, a8, a9, a10, a11)) =>
  if a1 = a7 then
   (slices_Equal___int_int_ k (a2, a8)).bind fun v0 =>
   if v0 = true then
    if a0 = a6 then
     if a3 = a9 then
      if a4 = a10 then
       some (decide (a5 = a11))
      else
       some false
     else
      some false
    else
     some false
   else
    some false
  else
   some false
noncomputable def g_impl_samePart : (Int × Int × List Int × Int × Int × Int) × (Int × Int × List Int × Int × Int × Int) → Option (Bool) := impl_samePart_ (fun _ => g_slices_Equal___int_int_) 0
theorem e_impl_samePart : ∀ x b, g_impl_samePart x = some b → ∃ k, impl_samePart_ (fun _ => g_slices_Equal___int_int_) k x = some b := fun x b h => ⟨0, h⟩
/- impl_copyInts -/
def con_impl_copyInts (f : Nat → List Int → Option (List Int)) : Con := ⟨[.c (.sl (.int .i64))], 1, [.v false [.own (.int .i64) 3]], f⟩
def impl_copyInts_ (k : Nat) : List Int → Option (List Int)
  | a0 =>
  if (((List.length ([] : List Int) + List.length a0 : Nat) : Int) * ((8 : Nat) : Int)) ≤ 140737488355328 then some (([] : List Int) ++ a0) else none
noncomputable def g_impl_copyInts : List Int → Option (List Int) := impl_copyInts_  0
theorem e_impl_copyInts : ∀ x b, g_impl_copyInts x = some b → ∃ k, impl_copyInts_  k x = some b := fun x b h => ⟨0, h⟩
/- impl_cellAt -/
def con_impl_cellAt (f : Nat → List Int × (Int × Int) × Int → Option (Int)) : Con := ⟨[.agg [.sl (.int .i64)], .agg [.int .i64, .int .i64], .c (.int .i64)], 1, [.v false [.int .i64]], f⟩
def impl_cellAt_ (k : Nat) : List Int × (Int × Int) × Int → Option (Int)
  | (a0, (a1, a2), a3) =>
  if a1 < 0 then
   some (-1)
  else
   if a3 < 0 then
    some (-1)
   else
    if a2 ≤ a3 then
     some (-1)
    else
     if (wrap64 (((List.length a0 : Nat) : Int) - a1)) ≤ a3 then
      some (-1)
     else
      some (wrap64 (a1 + a3))
noncomputable def g_impl_cellAt : List Int × (Int × Int) × Int → Option (Int) := impl_cellAt_  0
theorem e_impl_cellAt : ∀ x b, g_impl_cellAt x = some b → ∃ k, impl_cellAt_  k x = some b := fun x b h => ⟨0, h⟩
/- impl_CellsOf -/
def con_impl_CellsOf (f : Nat → List Int × (Int × Int) → Option (List Int)) : Con := ⟨[.agg [.sl (.int .i64)], .agg [.int .i64, .int .i64]], 1, [.v false [.own (.int .i64) 3]], f⟩
def impl_CellsOf_L3 (impl_cellAt : Nat → List Int × (Int × Int) × Int → Option (Int)) : Nat → Int × List Int × Int × Int × List Int × Unit → Option (List Int)
  | 0, _ => none
  | k + 1, (b0, b1, b2, b3, b4, ()) =>
    (impl_cellAt k (b1, ((b2, b3), b0))).bind fun v0 =>
    if 0 ≤ v0 then
     if 0 ≤ (wrap64 (b2 + b0)) then
      if (wrap64 (b2 + b0)) < ((List.length b1 : Nat) : Int) then
       if (((List.length b4 + List.length [(List.getD b1 (Int.toNat (wrap64 (b2 + b0))) 0)] : Nat) : Int) * ((8 : Nat) : Int)) ≤ 140737488355328 then impl_CellsOf_L3 impl_cellAt k ((wrap64 (b0 + 1)), b1, b2, b3, (b4 ++ [(List.getD b1 (Int.toNat (wrap64 (b2 + b0))) 0)]), ()) else none
      else
       none
     else
      none
    else
     some b4
def impl_CellsOf_ (impl_cellAt : Nat → List Int × (Int × Int) × Int → Option (Int)) (k : Nat) : List Int × (Int × Int) → Option (List Int)
  | (a0, (a1, a2)) =>
  impl_CellsOf_L3 impl_cellAt k (0, a0, a1, a2, ([] : List Int), ())
noncomputable def g_impl_CellsOf : List Int × (Int × Int) → Option (List Int) := evG (impl_CellsOf_ (fun _ => g_impl_cellAt))
theorem e_impl_CellsOf : ∀ x b, g_impl_CellsOf x = some b → ∃ k, impl_CellsOf_ (fun _ => g_impl_cellAt) k x = some b := evG_e _
/- impl_copyCpu -/
def con_impl_copyCpu (f : Nat → (Int × List Int) → Option ((Int × List Int))) : Con := ⟨[.agg [.int .i64, .sl (.int .i64)]], 1, [.v true [.int .i64, .own (.int .i64) 3]], f⟩
def impl_copyCpu_ (impl_copyInts : Nat → List Int → Option (List Int)) (k : Nat) : (Int × List Int) → Option ((Int × List Int))
  | (a0, a1) =>
  (impl_copyInts k a1).bind fun v0 =>
  some (a0, v0)
noncomputable def g_impl_copyCpu : (Int × List Int) → Option ((Int × List Int)) := impl_copyCpu_ (fun _ => g_impl_copyInts) 0
theorem e_impl_copyCpu : ∀ x b, g_impl_copyCpu x = some b → ∃ k, impl_copyCpu_ (fun _ => g_impl_copyInts) k x = some b := fun x b h => ⟨0, h⟩
/- impl_copyPart -/
def con_impl_copyPart (f : Nat → (Int × Int × List Int × Int × Int × Int) → Option ((Int × Int × List Int × Int × Int × Int))) : Con := ⟨[.agg [.int .i64, .int .i64, .sl (.int .i64), .int .i64, .int .i64, .int .i64]], 1, [.v true [.int .i64, .int .i64, .own (.int .i64) 3, .int .i64, .int .i64, .int .i64]], f⟩
def impl_copyPart_ (impl_copyCpu : Nat → (Int × List Int) → Option ((Int × List Int))) (k : Nat) : (Int × Int × List Int × Int × Int × Int) → Option ((Int × Int × List Int × Int × Int × Int))
  | (a0, a1, a2, a3, a4, a5) =>
  (impl_copyCpu k (a1, a2)).bind fun v0 =>
  some (a0, (v0.1, (v0.2, (a3, (a4, a5)))))
noncomputable def g_impl_copyPart : (Int × Int × List Int × Int × Int × Int) → Option ((Int × Int × List Int × Int × Int × Int)) := impl_copyPart_ (fun _ => g_impl_copyCpu) 0
theorem e_impl_copyPart : ∀ x b, g_impl_copyPart x = some b → ∃ k, impl_copyPart_ (fun _ => g_impl_copyCpu) k x = some b := fun x b h => ⟨0, h⟩
/- impl_within -/
def con_impl_within (f : Nat → Int × Int × Int → Option (Bool)) : Con := ⟨[.c (.int .i64), .c (.int .i64), .c (.int .i64)], 1, [.v false [.bool]], f⟩
def impl_within_ (k : Nat) : Int × Int × Int → Option (Bool)
  | (a0, a1, a2) =>
  if a1 ≤ a0 then
   some (decide (a0 ≤ a2))
  else
   some false
noncomputable def g_impl_within : Int × Int × Int → Option (Bool) := impl_within_  0
theorem e_impl_within : ∀ x b, g_impl_within x = some b → ∃ k, impl_within_  k x = some b := fun x b h => ⟨0, h⟩
/- impl_PartView -/
def con_impl_PartView (f : Nat → ((List (Int × Int)) × (List (Int × Int)) × (List (Int × (Int × (Int × (Int × Int))))) × (List (Int × (Int × Int))) × List ByteArray × List Int × (List (Int × ((Int × (List Int)) × (Int × (Int × Int))))) × (List (List (Int × Int))) × List Int × Int × Bool × (List (Int × (Int × (Int × (Int × Int)))))) × Int → Option ((Int × Int × List Int × Int × Int × Int) × List Int × List Int)) : Con := ⟨[.agg [.sl (.pair (.int .i64) (.int .i64)), .sl (.pair (.int .i64) (.int .i64)), .sl (.pair (.int .i64) (.pair (.int .i64) (.pair (.int .i64) (.pair (.int .i64) (.int .i64))))), .sl (.pair (.int .i64) (.pair (.int .i64) (.int .i64))), .sl .str, .sl (.int .i64), .nsl (.pair (.f (.int .i64)) (.pair (.pair (.f (.int .i64)) (.sl (.int .i64))) (.pair (.f (.int .i64)) (.pair (.f (.int .i64)) (.f (.int .i64)))))), .nsl (.sl (.pair (.int .i64) (.int .i64))), .sl (.int .i64), .int .i64, .bool, .sl (.pair (.int .i64) (.pair (.int .i64) (.pair (.int .i64) (.pair (.int .i64) (.int .i64)))))], .c (.int .i64)], 3, [.v true [.int .i64, .int .i64, .own (.int .i64) 3, .int .i64, .int .i64, .int .i64], .v false [.own (.int .i64) 3], .v false [.own (.int .i64) 3]], f⟩
def impl_PartView_ (impl_CellsOf : Nat → List Int × (Int × Int) → Option (List Int)) (impl_copyInts : Nat → List Int → Option (List Int)) (impl_copyPart : Nat → (Int × Int × List Int × Int × Int × Int) → Option ((Int × Int × List Int × Int × Int × Int))) (impl_within : Nat → Int × Int × Int → Option (Bool)) (k : Nat) : ((List (Int × Int)) × (List (Int × Int)) × (List (Int × (Int × (Int × (Int × Int))))) × (List (Int × (Int × Int))) × List ByteArray × List Int × (List (Int × ((Int × (List Int)) × (Int × (Int × Int))))) × (List (List (Int × Int))) × List Int × Int × Bool × (List (Int × (Int × (Int × (Int × Int)))))) × Int → Option ((Int × Int × List Int × Int × Int × Int) × List Int × List Int)
  | ((a0, a1, a2, a3, a4, a5, a6, a7, a8, a9, a10, a11), a12) =>
  (impl_within k (a12, (1, ((List.length a6 : Nat) : Int)))).bind fun v0 =>
  if v0 = true then
   if ((List.length a0 : Nat) : Int) < a12 then
    some ((0, (0, (([] : List Int), (0, (0, 0))))), (([] : List Int), ([] : List Int)))
   else
    if ((List.length a8 : Nat) : Int) < (wrap64 (2 * a12)) then
     some ((0, (0, (([] : List Int), (0, (0, 0))))), (([] : List Int), ([] : List Int)))
    else
     if 0 ≤ (wrap64 (a12 - 1)) then
      if (wrap64 (a12 - 1)) < ((List.length a6 : Nat) : Int) then
       if 0 ≤ (wrap64 (a12 - 1)) then
        if (wrap64 (a12 - 1)) < ((List.length a0 : Nat) : Int) then (impl_copyPart k ((List.getD a6 (Int.toNat (wrap64 (a12 - 1))) (0, ((0, ([] : List Int)), (0, (0, 0))))).1, ((List.getD a6 (Int.toNat (wrap64 (a12 - 1))) (0, ((0, ([] : List Int)), (0, (0, 0))))).2.1.1, ((List.getD a6 (Int.toNat (wrap64 (a12 - 1))) (0, ((0, ([] : List Int)), (0, (0, 0))))).2.1.2, (List.getD a6 (Int.toNat (wrap64 (a12 - 1))) (0, ((0, ([] : List Int)), (0, (0, 0))))).2.2)))).bind fun v1 =>
         (impl_CellsOf k (a5, (List.getD a0 (Int.toNat (wrap64 (a12 - 1))) (0, 0)))).bind fun v2 =>
         if 0 ≤ (wrap64 (2 * a12)) then
          if (wrap64 (2 * a12)) ≤ ((List.length a8 : Nat) : Int) then
           if 0 ≤ (wrap64 ((wrap64 (2 * a12)) - 2)) then
            if (wrap64 ((wrap64 (2 * a12)) - 2)) ≤ (wrap64 (2 * a12)) then (impl_copyInts k (List.drop (Int.toNat (wrap64 ((wrap64 (2 * a12)) - 2))) (List.take (Int.toNat (wrap64 (2 * a12))) a8))).bind fun v3 =>
             some (v1, (v2, v3)) else none
           else
            none
          else
           none
         else
          none else none
       else
        none
      else
       none
     else
      none
  else
   some ((0, (0, (([] : List Int), (0, (0, 0))))), (([] : List Int), ([] : List Int)))
noncomputable def g_impl_PartView : ((List (Int × Int)) × (List (Int × Int)) × (List (Int × (Int × (Int × (Int × Int))))) × (List (Int × (Int × Int))) × List ByteArray × List Int × (List (Int × ((Int × (List Int)) × (Int × (Int × Int))))) × (List (List (Int × Int))) × List Int × Int × Bool × (List (Int × (Int × (Int × (Int × Int)))))) × Int → Option ((Int × Int × List Int × Int × Int × Int) × List Int × List Int) := impl_PartView_ (fun _ => g_impl_CellsOf) (fun _ => g_impl_copyInts) (fun _ => g_impl_copyPart) (fun _ => g_impl_within) 0
theorem e_impl_PartView : ∀ x b, g_impl_PartView x = some b → ∃ k, impl_PartView_ (fun _ => g_impl_CellsOf) (fun _ => g_impl_copyInts) (fun _ => g_impl_copyPart) (fun _ => g_impl_within) k x = some b := fun x b h => ⟨0, h⟩
/- impl_Apart -/
def con_impl_Apart (f : Nat → ((List (Int × Int)) × (List (Int × Int)) × (List (Int × (Int × (Int × (Int × Int))))) × (List (Int × (Int × Int))) × List ByteArray × List Int × (List (Int × ((Int × (List Int)) × (Int × (Int × Int))))) × (List (List (Int × Int))) × List Int × Int × Bool × (List (Int × (Int × (Int × (Int × Int)))))) × ((List (Int × Int)) × (List (Int × Int)) × (List (Int × (Int × (Int × (Int × Int))))) × (List (Int × (Int × Int))) × List ByteArray × List Int × (List (Int × ((Int × (List Int)) × (Int × (Int × Int))))) × (List (List (Int × Int))) × List Int × Int × Bool × (List (Int × (Int × (Int × (Int × Int)))))) × Int → Option (Bool)) : Con := ⟨[.agg [.sl (.pair (.int .i64) (.int .i64)), .sl (.pair (.int .i64) (.int .i64)), .sl (.pair (.int .i64) (.pair (.int .i64) (.pair (.int .i64) (.pair (.int .i64) (.int .i64))))), .sl (.pair (.int .i64) (.pair (.int .i64) (.int .i64))), .sl .str, .sl (.int .i64), .nsl (.pair (.f (.int .i64)) (.pair (.pair (.f (.int .i64)) (.sl (.int .i64))) (.pair (.f (.int .i64)) (.pair (.f (.int .i64)) (.f (.int .i64)))))), .nsl (.sl (.pair (.int .i64) (.int .i64))), .sl (.int .i64), .int .i64, .bool, .sl (.pair (.int .i64) (.pair (.int .i64) (.pair (.int .i64) (.pair (.int .i64) (.int .i64)))))], .agg [.sl (.pair (.int .i64) (.int .i64)), .sl (.pair (.int .i64) (.int .i64)), .sl (.pair (.int .i64) (.pair (.int .i64) (.pair (.int .i64) (.pair (.int .i64) (.int .i64))))), .sl (.pair (.int .i64) (.pair (.int .i64) (.int .i64))), .sl .str, .sl (.int .i64), .nsl (.pair (.f (.int .i64)) (.pair (.pair (.f (.int .i64)) (.sl (.int .i64))) (.pair (.f (.int .i64)) (.pair (.f (.int .i64)) (.f (.int .i64)))))), .nsl (.sl (.pair (.int .i64) (.int .i64))), .sl (.int .i64), .int .i64, .bool, .sl (.pair (.int .i64) (.pair (.int .i64) (.pair (.int .i64) (.pair (.int .i64) (.int .i64)))))], .c (.int .i64)], 1, [.v false [.bool]], f⟩
def impl_Apart_ (impl_PartView : Nat → ((List (Int × Int)) × (List (Int × Int)) × (List (Int × (Int × (Int × (Int × Int))))) × (List (Int × (Int × Int))) × List ByteArray × List Int × (List (Int × ((Int × (List Int)) × (Int × (Int × Int))))) × (List (List (Int × Int))) × List Int × Int × Bool × (List (Int × (Int × (Int × (Int × Int)))))) × Int → Option ((Int × Int × List Int × Int × Int × Int) × List Int × List Int)) (impl_samePart : Nat → (Int × Int × List Int × Int × Int × Int) × (Int × Int × List Int × Int × Int × Int) → Option (Bool)) (slices_Equal___int_int_ : Nat → List Int × List Int → Option (Bool)) (k : Nat) : ((List (Int × Int)) × (List (Int × Int)) × (List (Int × (Int × (Int × (Int × Int))))) × (List (Int × (Int × Int))) × List ByteArray × List Int × (List (Int × ((Int × (List Int)) × (Int × (Int × Int))))) × (List (List (Int × Int))) × List Int × Int × Bool × (List (Int × (Int × (Int × (Int × Int)))))) × ((List (Int × Int)) × (List (Int × Int)) × (List (Int × (Int × (Int × (Int × Int))))) × (List (Int × (Int × Int))) × List ByteArray × List Int × (List (Int × ((Int × (List Int)) × (Int × (Int × Int))))) × (List (List (Int × Int))) × List Int × Int × Bool × (List (Int × (Int × (Int × (Int × Int)))))) × Int → Option (Bool)
  | ((a0, a1, a2, a3, a4, a5, a6, a7, a8, a9, a10, a11), (a12, a13, a14, a15, a16, a17, a18, a19, a20, a21, a22, a23), a24) =>
  (impl_PartView k ((a0, (a1, (a2, (a3, (a4, (a5, (a6, (a7, (a8, (a9, (a10, a11))))))))))), a24)).bind fun v0 =>
  (impl_PartView k ((a12, (a13, (a14, (a15, (a16, (a17, (a18, (a19, (a20, (a21, (a22, a23))))))))))), a24)).bind fun v1 =>
  (impl_samePart k (v0.1, v1.1)).bind fun v2 =>
  if v2 = true then
   (slices_Equal___int_int_ k (v0.2.1, v1.2.1)).bind fun v3 =>
   if v3 = true then
    (slices_Equal___int_int_ k (v0.2.2, v1.2.2)).bind fun v4 =>
    some v4
   else
    some false
  else
   some false
noncomputable def g_impl_Apart : ((List (Int × Int)) × (List (Int × Int)) × (List (Int × (Int × (Int × (Int × Int))))) × (List (Int × (Int × Int))) × List ByteArray × List Int × (List (Int × ((Int × (List Int)) × (Int × (Int × Int))))) × (List (List (Int × Int))) × List Int × Int × Bool × (List (Int × (Int × (Int × (Int × Int)))))) × ((List (Int × Int)) × (List (Int × Int)) × (List (Int × (Int × (Int × (Int × Int))))) × (List (Int × (Int × Int))) × List ByteArray × List Int × (List (Int × ((Int × (List Int)) × (Int × (Int × Int))))) × (List (List (Int × Int))) × List Int × Int × Bool × (List (Int × (Int × (Int × (Int × Int)))))) × Int → Option (Bool) := impl_Apart_ (fun _ => g_impl_PartView) (fun _ => g_impl_samePart) (fun _ => g_slices_Equal___int_int_) 0
theorem e_impl_Apart : ∀ x b, g_impl_Apart x = some b → ∃ k, impl_Apart_ (fun _ => g_impl_PartView) (fun _ => g_impl_samePart) (fun _ => g_slices_Equal___int_int_) k x = some b := fun x b h => ⟨0, h⟩
/- spec_l19Same -/
def con_spec_l19Same (f : Nat → List Int × List Int → Option (Bool)) : Con := ⟨[.c (.sl (.int .i64)), .c (.sl (.int .i64))], 1, [.v false [.bool]], f⟩
def spec_l19Same_L4 : Nat → Int × List Int × List Int × Unit → Option (Bool)
  | 0, _ => none
  | k + 1, (b0, b1, b2, ()) =>
    if b0 < ((List.length b1 : Nat) : Int) then
     if 0 ≤ b0 then
      if b0 < ((List.length b1 : Nat) : Int) then
       if 0 ≤ b0 then
        if b0 < ((List.length b2 : Nat) : Int) then
         if (List.getD b1 (Int.toNat b0) 0) = (List.getD b2 (Int.toNat b0) 0) then
          spec_l19Same_L4 k ((wrap64 (b0 + 1)), b1, b2, ())
         else
          some false
        else
         none
       else
        none
      else
       none
     else
      none
    else
     some true
def spec_l19Same_ (k : Nat) : List Int × List Int → Option (Bool)
  | (a0, a1) =>
  if ((List.length a0 : Nat) : Int) = ((List.length a1 : Nat) : Int) then
   spec_l19Same_L4 k (0, a0, a1, ())
  else
   some false
noncomputable def g_spec_l19Same : List Int × List Int → Option (Bool) := evG (spec_l19Same_ )
theorem e_spec_l19Same : ∀ x b, g_spec_l19Same x = some b → ∃ k, spec_l19Same_  k x = some b := evG_e _
/- spec_l01In -/
def con_spec_l01In (f : Nat → Int × Int × Int → Option (Bool)) : Con := ⟨[.c (.int .i64), .c (.int .i64), .c (.int .i64)], 1, [.v false [.bool]], f⟩
def spec_l01In_ (k : Nat) : Int × Int × Int → Option (Bool)
  | (a0, a1, a2) =>
  if a1 ≤ a0 then
   some (decide (a0 ≤ a2))
  else
   some false
noncomputable def g_spec_l01In : Int × Int × Int → Option (Bool) := spec_l01In_  0
theorem e_spec_l01In : ∀ x b, g_spec_l01In x = some b → ∃ k, spec_l01In_  k x = some b := fun x b h => ⟨0, h⟩
/- spec_l04At -/
def con_spec_l04At (f : Nat → List Int × (Int × Int) × Int → Option (Int)) : Con := ⟨[.agg [.sl (.int .i64)], .agg [.int .i64, .int .i64], .c (.int .i64)], 1, [.v false [.int .i64]], f⟩
def spec_l04At_ (spec_l01In : Nat → Int × Int × Int → Option (Bool)) (k : Nat) : List Int × (Int × Int) × Int → Option (Int)
  | (a0, (a1, a2), a3) =>
  if a3 < 0 then
   some (-1)
  else
   if a2 ≤ a3 then
    some (-1)
   else
    (spec_l01In k (a1, (0, (wrap64 (((List.length a0 : Nat) : Int) - 1))))).bind fun v0 =>
    if v0 = true then
     if (wrap64 (((List.length a0 : Nat) : Int) - a1)) ≤ a3 then
      some (-1)
     else
      some (wrap64 (a1 + a3))
    else
     some (-1)
noncomputable def g_spec_l04At : List Int × (Int × Int) × Int → Option (Int) := spec_l04At_ (fun _ => g_spec_l01In) 0
theorem e_spec_l04At : ∀ x b, g_spec_l04At x = some b → ∃ k, spec_l04At_ (fun _ => g_spec_l01In) k x = some b := fun x b h => ⟨0, h⟩
/- spec_CellsOf -/
def con_spec_CellsOf (f : Nat → List Int × (Int × Int) → Option (List Int)) : Con := ⟨[.agg [.sl (.int .i64)], .agg [.int .i64, .int .i64]], 1, [.v false [.own (.int .i64) 3]], f⟩
def spec_CellsOf_L3 (spec_l04At : Nat → List Int × (Int × Int) × Int → Option (Int)) : Nat → Int × List Int × Int × Int × List Int × Unit → Option (List Int)
  | 0, _ => none
  | k + 1, (b0, b1, b2, b3, b4, ()) =>
    if b0 < b3 then
     if b0 < ((List.length b1 : Nat) : Int) then
      (spec_l04At k (b1, ((b2, b3), b0))).bind fun v0 =>
      if 0 ≤ v0 then
       if 0 ≤ v0 then
        if v0 < ((List.length b1 : Nat) : Int) then
         if (((List.length b4 + List.length [(List.getD b1 (Int.toNat v0) 0)] : Nat) : Int) * ((8 : Nat) : Int)) ≤ 140737488355328 then spec_CellsOf_L3 spec_l04At k ((wrap64 (b0 + 1)), b1, b2, b3, (b4 ++ [(List.getD b1 (Int.toNat v0) 0)]), ()) else none
        else
         none
       else
        none
      else
       spec_CellsOf_L3 spec_l04At k ((wrap64 (b0 + 1)), b1, b2, b3, b4, ())
     else
      some b4
    else
     some b4
def spec_CellsOf_ (spec_l04At : Nat → List Int × (Int × Int) × Int → Option (Int)) (k : Nat) : List Int × (Int × Int) → Option (List Int)
  | (a0, (a1, a2)) =>
  spec_CellsOf_L3 spec_l04At k (0, a0, a1, a2, ([] : List Int), ())
noncomputable def g_spec_CellsOf : List Int × (Int × Int) → Option (List Int) := evG (spec_CellsOf_ (fun _ => g_spec_l04At))
theorem e_spec_CellsOf : ∀ x b, g_spec_CellsOf x = some b → ∃ k, spec_CellsOf_ (fun _ => g_spec_l04At) k x = some b := evG_e _
/- spec_l06Copy -/
def con_spec_l06Copy (f : Nat → (Int × List Int) → Option ((Int × List Int))) : Con := ⟨[.agg [.int .i64, .sl (.int .i64)]], 1, [.v true [.int .i64, .own (.int .i64) 3]], f⟩
def spec_l06Copy_ (k : Nat) : (Int × List Int) → Option ((Int × List Int))
  | (a0, a1) =>
  if (((List.length ([] : List Int) + List.length a1 : Nat) : Int) * ((8 : Nat) : Int)) ≤ 140737488355328 then some (a0, (([] : List Int) ++ a1)) else none
noncomputable def g_spec_l06Copy : (Int × List Int) → Option ((Int × List Int)) := spec_l06Copy_  0
theorem e_spec_l06Copy : ∀ x b, g_spec_l06Copy x = some b → ∃ k, spec_l06Copy_  k x = some b := fun x b h => ⟨0, h⟩
/- spec_PartView -/
def con_spec_PartView (f : Nat → ((List (Int × Int)) × (List (Int × Int)) × (List (Int × (Int × (Int × (Int × Int))))) × (List (Int × (Int × Int))) × List ByteArray × List Int × (List (Int × ((Int × (List Int)) × (Int × (Int × Int))))) × (List (List (Int × Int))) × List Int × Int × Bool × (List (Int × (Int × (Int × (Int × Int)))))) × Int → Option ((Int × Int × List Int × Int × Int × Int) × List Int × List Int)) : Con := ⟨[.agg [.sl (.pair (.int .i64) (.int .i64)), .sl (.pair (.int .i64) (.int .i64)), .sl (.pair (.int .i64) (.pair (.int .i64) (.pair (.int .i64) (.pair (.int .i64) (.int .i64))))), .sl (.pair (.int .i64) (.pair (.int .i64) (.int .i64))), .sl .str, .sl (.int .i64), .nsl (.pair (.f (.int .i64)) (.pair (.pair (.f (.int .i64)) (.sl (.int .i64))) (.pair (.f (.int .i64)) (.pair (.f (.int .i64)) (.f (.int .i64)))))), .nsl (.sl (.pair (.int .i64) (.int .i64))), .sl (.int .i64), .int .i64, .bool, .sl (.pair (.int .i64) (.pair (.int .i64) (.pair (.int .i64) (.pair (.int .i64) (.int .i64)))))], .c (.int .i64)], 3, [.v true [.int .i64, .int .i64, .own (.int .i64) 3, .int .i64, .int .i64, .int .i64], .v false [.own (.int .i64) 3], .v false [.own (.int .i64) 3]], f⟩
def spec_PartView_ (spec_CellsOf : Nat → List Int × (Int × Int) → Option (List Int)) (spec_l01In : Nat → Int × Int × Int → Option (Bool)) (spec_l06Copy : Nat → (Int × List Int) → Option ((Int × List Int))) (k : Nat) : ((List (Int × Int)) × (List (Int × Int)) × (List (Int × (Int × (Int × (Int × Int))))) × (List (Int × (Int × Int))) × List ByteArray × List Int × (List (Int × ((Int × (List Int)) × (Int × (Int × Int))))) × (List (List (Int × Int))) × List Int × Int × Bool × (List (Int × (Int × (Int × (Int × Int)))))) × Int → Option ((Int × Int × List Int × Int × Int × Int) × List Int × List Int)
  | ((a0, a1, a2, a3, a4, a5, a6, a7, a8, a9, a10, a11), a12) =>
  (spec_l01In k (a12, (1, ((List.length a6 : Nat) : Int)))).bind fun v0 =>
  if v0 = true then
   if ((List.length a0 : Nat) : Int) < a12 then
    some ((0, (0, (([] : List Int), (0, (0, 0))))), (([] : List Int), ([] : List Int)))
   else
    if ((List.length a8 : Nat) : Int) < (wrap64 (2 * a12)) then
     some ((0, (0, (([] : List Int), (0, (0, 0))))), (([] : List Int), ([] : List Int)))
    else
     if 0 ≤ (wrap64 (a12 - 1)) then
      if (wrap64 (a12 - 1)) < ((List.length a6 : Nat) : Int) then (spec_l06Copy k (List.getD a6 (Int.toNat (wrap64 (a12 - 1))) (0, ((0, ([] : List Int)), (0, (0, 0))))).2.1).bind fun v1 =>
       if 0 ≤ (wrap64 (a12 - 1)) then
        if (wrap64 (a12 - 1)) < ((List.length a0 : Nat) : Int) then
         if 0 ≤ (wrap64 ((wrap64 (2 * a12)) - 2)) then
          if (wrap64 ((wrap64 (2 * a12)) - 2)) < ((List.length a8 : Nat) : Int) then
           if 0 ≤ (wrap64 ((wrap64 (2 * a12)) - 1)) then
            if (wrap64 ((wrap64 (2 * a12)) - 1)) < ((List.length a8 : Nat) : Int) then (spec_CellsOf k (a5, (List.getD a0 (Int.toNat (wrap64 (a12 - 1))) (0, 0)))).bind fun v2 =>
             some (((List.getD a6 (Int.toNat (wrap64 (a12 - 1))) (0, ((0, ([] : List Int)), (0, (0, 0))))).1, (v1.1, (v1.2, (List.getD a6 (Int.toNat (wrap64 (a12 - 1))) (0, ((0, ([] : List Int)), (0, (0, 0))))).2.2))), (v2, [(List.getD a8 (Int.toNat (wrap64 ((wrap64 (2 * a12)) - 2))) 0), (List.getD a8 (Int.toNat (wrap64 ((wrap64 (2 * a12)) - 1))) 0)])) else none
           else
            none
          else
           none
         else
          none
        else
         none
       else
        none else none
     else
      none
  else
   some ((0, (0, (([] : List Int), (0, (0, 0))))), (([] : List Int), ([] : List Int)))
noncomputable def g_spec_PartView : ((List (Int × Int)) × (List (Int × Int)) × (List (Int × (Int × (Int × (Int × Int))))) × (List (Int × (Int × Int))) × List ByteArray × List Int × (List (Int × ((Int × (List Int)) × (Int × (Int × Int))))) × (List (List (Int × Int))) × List Int × Int × Bool × (List (Int × (Int × (Int × (Int × Int)))))) × Int → Option ((Int × Int × List Int × Int × Int × Int) × List Int × List Int) := spec_PartView_ (fun _ => g_spec_CellsOf) (fun _ => g_spec_l01In) (fun _ => g_spec_l06Copy) 0
theorem e_spec_PartView : ∀ x b, g_spec_PartView x = some b → ∃ k, spec_PartView_ (fun _ => g_spec_CellsOf) (fun _ => g_spec_l01In) (fun _ => g_spec_l06Copy) k x = some b := fun x b h => ⟨0, h⟩
/- spec_Apart -/
def con_spec_Apart (f : Nat → ((List (Int × Int)) × (List (Int × Int)) × (List (Int × (Int × (Int × (Int × Int))))) × (List (Int × (Int × Int))) × List ByteArray × List Int × (List (Int × ((Int × (List Int)) × (Int × (Int × Int))))) × (List (List (Int × Int))) × List Int × Int × Bool × (List (Int × (Int × (Int × (Int × Int)))))) × ((List (Int × Int)) × (List (Int × Int)) × (List (Int × (Int × (Int × (Int × Int))))) × (List (Int × (Int × Int))) × List ByteArray × List Int × (List (Int × ((Int × (List Int)) × (Int × (Int × Int))))) × (List (List (Int × Int))) × List Int × Int × Bool × (List (Int × (Int × (Int × (Int × Int)))))) × Int → Option (Bool)) : Con := ⟨[.agg [.sl (.pair (.int .i64) (.int .i64)), .sl (.pair (.int .i64) (.int .i64)), .sl (.pair (.int .i64) (.pair (.int .i64) (.pair (.int .i64) (.pair (.int .i64) (.int .i64))))), .sl (.pair (.int .i64) (.pair (.int .i64) (.int .i64))), .sl .str, .sl (.int .i64), .nsl (.pair (.f (.int .i64)) (.pair (.pair (.f (.int .i64)) (.sl (.int .i64))) (.pair (.f (.int .i64)) (.pair (.f (.int .i64)) (.f (.int .i64)))))), .nsl (.sl (.pair (.int .i64) (.int .i64))), .sl (.int .i64), .int .i64, .bool, .sl (.pair (.int .i64) (.pair (.int .i64) (.pair (.int .i64) (.pair (.int .i64) (.int .i64)))))], .agg [.sl (.pair (.int .i64) (.int .i64)), .sl (.pair (.int .i64) (.int .i64)), .sl (.pair (.int .i64) (.pair (.int .i64) (.pair (.int .i64) (.pair (.int .i64) (.int .i64))))), .sl (.pair (.int .i64) (.pair (.int .i64) (.int .i64))), .sl .str, .sl (.int .i64), .nsl (.pair (.f (.int .i64)) (.pair (.pair (.f (.int .i64)) (.sl (.int .i64))) (.pair (.f (.int .i64)) (.pair (.f (.int .i64)) (.f (.int .i64)))))), .nsl (.sl (.pair (.int .i64) (.int .i64))), .sl (.int .i64), .int .i64, .bool, .sl (.pair (.int .i64) (.pair (.int .i64) (.pair (.int .i64) (.pair (.int .i64) (.int .i64)))))], .c (.int .i64)], 1, [.v false [.bool]], f⟩
def spec_Apart_ (spec_PartView : Nat → ((List (Int × Int)) × (List (Int × Int)) × (List (Int × (Int × (Int × (Int × Int))))) × (List (Int × (Int × Int))) × List ByteArray × List Int × (List (Int × ((Int × (List Int)) × (Int × (Int × Int))))) × (List (List (Int × Int))) × List Int × Int × Bool × (List (Int × (Int × (Int × (Int × Int)))))) × Int → Option ((Int × Int × List Int × Int × Int × Int) × List Int × List Int)) (spec_l19Same : Nat → List Int × List Int → Option (Bool)) (k : Nat) : ((List (Int × Int)) × (List (Int × Int)) × (List (Int × (Int × (Int × (Int × Int))))) × (List (Int × (Int × Int))) × List ByteArray × List Int × (List (Int × ((Int × (List Int)) × (Int × (Int × Int))))) × (List (List (Int × Int))) × List Int × Int × Bool × (List (Int × (Int × (Int × (Int × Int)))))) × ((List (Int × Int)) × (List (Int × Int)) × (List (Int × (Int × (Int × (Int × Int))))) × (List (Int × (Int × Int))) × List ByteArray × List Int × (List (Int × ((Int × (List Int)) × (Int × (Int × Int))))) × (List (List (Int × Int))) × List Int × Int × Bool × (List (Int × (Int × (Int × (Int × Int)))))) × Int → Option (Bool)
  | ((a0, a1, a2, a3, a4, a5, a6, a7, a8, a9, a10, a11), (a12, a13, a14, a15, a16, a17, a18, a19, a20, a21, a22, a23), a24) =>
  (spec_PartView k ((a0, (a1, (a2, (a3, (a4, (a5, (a6, (a7, (a8, (a9, (a10, a11))))))))))), a24)).bind fun v0 =>
  (spec_PartView k ((a12, (a13, (a14, (a15, (a16, (a17, (a18, (a19, (a20, (a21, (a22, a23))))))))))), a24)).bind fun v1 =>
  if v0.1.1 = v1.1.1 then
   if v0.1.2.1 = v1.1.2.1 then
    (spec_l19Same k (v0.1.2.2.1, v1.1.2.2.1)).bind fun v2 =>
    if v2 = true then
     if v0.1.2.2.2.1 = v1.1.2.2.2.1 then
      if v0.1.2.2.2.2.1 = v1.1.2.2.2.2.1 then
       if v0.1.2.2.2.2.2 = v1.1.2.2.2.2.2 then
        (spec_l19Same k (v0.2.1, v1.2.1)).bind fun v3 =>
        if v3 = true then
         (spec_l19Same k (v0.2.2, v1.2.2)).bind fun v4 =>
         some v4
        else
         some false
       else
        some false
      else
       some false
     else
      some false
    else
     some false
   else
    some false
  else
   some false
noncomputable def g_spec_Apart : ((List (Int × Int)) × (List (Int × Int)) × (List (Int × (Int × (Int × (Int × Int))))) × (List (Int × (Int × Int))) × List ByteArray × List Int × (List (Int × ((Int × (List Int)) × (Int × (Int × Int))))) × (List (List (Int × Int))) × List Int × Int × Bool × (List (Int × (Int × (Int × (Int × Int)))))) × ((List (Int × Int)) × (List (Int × Int)) × (List (Int × (Int × (Int × (Int × Int))))) × (List (Int × (Int × Int))) × List ByteArray × List Int × (List (Int × ((Int × (List Int)) × (Int × (Int × Int))))) × (List (List (Int × Int))) × List Int × Int × Bool × (List (Int × (Int × (Int × (Int × Int)))))) × Int → Option (Bool) := spec_Apart_ (fun _ => g_spec_PartView) (fun _ => g_spec_l19Same) 0
theorem e_spec_Apart : ∀ x b, g_spec_Apart x = some b → ∃ k, spec_Apart_ (fun _ => g_spec_PartView) (fun _ => g_spec_l19Same) k x = some b := fun x b h => ⟨0, h⟩
/- laws_FnExactApart -/
def con_laws_FnExactApart (f : Nat → ((List (Int × Int)) × (List (Int × Int)) × (List (Int × (Int × (Int × (Int × Int))))) × (List (Int × (Int × Int))) × List ByteArray × List Int × (List (Int × ((Int × (List Int)) × (Int × (Int × Int))))) × (List (List (Int × Int))) × List Int × Int × Bool × (List (Int × (Int × (Int × (Int × Int)))))) × ((List (Int × Int)) × (List (Int × Int)) × (List (Int × (Int × (Int × (Int × Int))))) × (List (Int × (Int × Int))) × List ByteArray × List Int × (List (Int × ((Int × (List Int)) × (Int × (Int × Int))))) × (List (List (Int × Int))) × List Int × Int × Bool × (List (Int × (Int × (Int × (Int × Int)))))) × Int → Option (Bool)) : Con := ⟨[.agg [.sl (.pair (.int .i64) (.int .i64)), .sl (.pair (.int .i64) (.int .i64)), .sl (.pair (.int .i64) (.pair (.int .i64) (.pair (.int .i64) (.pair (.int .i64) (.int .i64))))), .sl (.pair (.int .i64) (.pair (.int .i64) (.int .i64))), .sl .str, .sl (.int .i64), .nsl (.pair (.f (.int .i64)) (.pair (.pair (.f (.int .i64)) (.sl (.int .i64))) (.pair (.f (.int .i64)) (.pair (.f (.int .i64)) (.f (.int .i64)))))), .nsl (.sl (.pair (.int .i64) (.int .i64))), .sl (.int .i64), .int .i64, .bool, .sl (.pair (.int .i64) (.pair (.int .i64) (.pair (.int .i64) (.pair (.int .i64) (.int .i64)))))], .agg [.sl (.pair (.int .i64) (.int .i64)), .sl (.pair (.int .i64) (.int .i64)), .sl (.pair (.int .i64) (.pair (.int .i64) (.pair (.int .i64) (.pair (.int .i64) (.int .i64))))), .sl (.pair (.int .i64) (.pair (.int .i64) (.int .i64))), .sl .str, .sl (.int .i64), .nsl (.pair (.f (.int .i64)) (.pair (.pair (.f (.int .i64)) (.sl (.int .i64))) (.pair (.f (.int .i64)) (.pair (.f (.int .i64)) (.f (.int .i64)))))), .nsl (.sl (.pair (.int .i64) (.int .i64))), .sl (.int .i64), .int .i64, .bool, .sl (.pair (.int .i64) (.pair (.int .i64) (.pair (.int .i64) (.pair (.int .i64) (.int .i64)))))], .c (.int .i64)], 1, [.v false [.bool]], f⟩
def laws_FnExactApart_ (impl_Apart : Nat → ((List (Int × Int)) × (List (Int × Int)) × (List (Int × (Int × (Int × (Int × Int))))) × (List (Int × (Int × Int))) × List ByteArray × List Int × (List (Int × ((Int × (List Int)) × (Int × (Int × Int))))) × (List (List (Int × Int))) × List Int × Int × Bool × (List (Int × (Int × (Int × (Int × Int)))))) × ((List (Int × Int)) × (List (Int × Int)) × (List (Int × (Int × (Int × (Int × Int))))) × (List (Int × (Int × Int))) × List ByteArray × List Int × (List (Int × ((Int × (List Int)) × (Int × (Int × Int))))) × (List (List (Int × Int))) × List Int × Int × Bool × (List (Int × (Int × (Int × (Int × Int)))))) × Int → Option (Bool)) (laws_eqKernel : Nat → ((List (Int × Int)) × (List (Int × Int)) × (List (Int × (Int × (Int × (Int × Int))))) × (List (Int × (Int × Int))) × List ByteArray × List Int × (List (Int × ((Int × (List Int)) × (Int × (Int × Int))))) × (List (List (Int × Int))) × List Int × Int × Bool × (List (Int × (Int × (Int × (Int × Int)))))) × ((List (Int × Int)) × (List (Int × Int)) × (List (Int × (Int × (Int × (Int × Int))))) × (List (Int × (Int × Int))) × List ByteArray × List Int × (List (Int × ((Int × (List Int)) × (Int × (Int × Int))))) × (List (List (Int × Int))) × List Int × Int × Bool × (List (Int × (Int × (Int × (Int × Int)))))) → Option (Bool)) (laws_szKernel : Nat → ((List (Int × Int)) × (List (Int × Int)) × (List (Int × (Int × (Int × (Int × Int))))) × (List (Int × (Int × Int))) × List ByteArray × List Int × (List (Int × ((Int × (List Int)) × (Int × (Int × Int))))) × (List (List (Int × Int))) × List Int × Int × Bool × (List (Int × (Int × (Int × (Int × Int)))))) × Int → Option (Int)) (laws_toKernel : Nat → ((List (Int × Int)) × (List (Int × Int)) × (List (Int × (Int × (Int × (Int × Int))))) × (List (Int × (Int × Int))) × List ByteArray × List Int × (List (Int × ((Int × (List Int)) × (Int × (Int × Int))))) × (List (List (Int × Int))) × List Int × Int × Bool × (List (Int × (Int × (Int × (Int × Int)))))) → Option (((List (Int × Int)) × (List (Int × Int)) × (List (Int × (Int × (Int × (Int × Int))))) × (List (Int × (Int × Int))) × List ByteArray × List Int × (List (Int × ((Int × (List Int)) × (Int × (Int × Int))))) × (List (List (Int × Int))) × List Int × Int × Bool × (List (Int × (Int × (Int × (Int × Int)))))))) (spec_Apart : Nat → ((List (Int × Int)) × (List (Int × Int)) × (List (Int × (Int × (Int × (Int × Int))))) × (List (Int × (Int × Int))) × List ByteArray × List Int × (List (Int × ((Int × (List Int)) × (Int × (Int × Int))))) × (List (List (Int × Int))) × List Int × Int × Bool × (List (Int × (Int × (Int × (Int × Int)))))) × ((List (Int × Int)) × (List (Int × Int)) × (List (Int × (Int × (Int × (Int × Int))))) × (List (Int × (Int × Int))) × List ByteArray × List Int × (List (Int × ((Int × (List Int)) × (Int × (Int × Int))))) × (List (List (Int × Int))) × List Int × Int × Bool × (List (Int × (Int × (Int × (Int × Int)))))) × Int → Option (Bool)) (k : Nat) : ((List (Int × Int)) × (List (Int × Int)) × (List (Int × (Int × (Int × (Int × Int))))) × (List (Int × (Int × Int))) × List ByteArray × List Int × (List (Int × ((Int × (List Int)) × (Int × (Int × Int))))) × (List (List (Int × Int))) × List Int × Int × Bool × (List (Int × (Int × (Int × (Int × Int)))))) × ((List (Int × Int)) × (List (Int × Int)) × (List (Int × (Int × (Int × (Int × Int))))) × (List (Int × (Int × Int))) × List ByteArray × List Int × (List (Int × ((Int × (List Int)) × (Int × (Int × Int))))) × (List (List (Int × Int))) × List Int × Int × Bool × (List (Int × (Int × (Int × (Int × Int)))))) × Int → Option (Bool)
  | ((a0, a1, a2, a3, a4, a5, a6, a7, a8, a9, a10, a11), (a12, a13, a14, a15, a16, a17, a18, a19, a20, a21, a22, a23), a24) =>
  (laws_szKernel k ((a0, (a1, (a2, (a3, (a4, (a5, (a6, (a7, (a8, (a9, (a10, a11))))))))))), 1048576)).bind fun v0 =>
  if v0 < 0 then
   some true
  else
   (laws_szKernel k ((a12, (a13, (a14, (a15, (a16, (a17, (a18, (a19, (a20, (a21, (a22, a23))))))))))), v0)).bind fun v1 =>
   if v1 < 0 then
    some true
   else
    (laws_toKernel k (a0, (a1, (a2, (a3, (a4, (a5, (a6, (a7, (a8, (a9, (a10, a11)))))))))))).bind fun v2 =>
    (laws_toKernel k (a12, (a13, (a14, (a15, (a16, (a17, (a18, (a19, (a20, (a21, (a22, a23)))))))))))).bind fun v3 =>
    (spec_Apart k (v2, (v3, a24))).bind fun v4 =>
    (laws_toKernel k (a0, (a1, (a2, (a3, (a4, (a5, (a6, (a7, (a8, (a9, (a10, a11)))))))))))).bind fun v5 =>
    (laws_toKernel k (a12, (a13, (a14, (a15, (a16, (a17, (a18, (a19, (a20, (a21, (a22, a23)))))))))))).bind fun v6 =>
    (impl_Apart k (v5, (v6, a24))).bind fun v7 =>
    if (v7 == v4) = true then
     (laws_toKernel k (a0, (a1, (a2, (a3, (a4, (a5, (a6, (a7, (a8, (a9, (a10, a11)))))))))))).bind fun v8 =>
     (laws_eqKernel k (v5, v8)).bind fun v9 =>
     if v9 = true then
      (laws_toKernel k (a12, (a13, (a14, (a15, (a16, (a17, (a18, (a19, (a20, (a21, (a22, a23)))))))))))).bind fun v10 =>
      (laws_eqKernel k (v6, v10)).bind fun v11 =>
      if v11 = true then
       some true
      else
       some false
     else
      some false
    else
     some false
noncomputable def g_laws_FnExactApart : ((List (Int × Int)) × (List (Int × Int)) × (List (Int × (Int × (Int × (Int × Int))))) × (List (Int × (Int × Int))) × List ByteArray × List Int × (List (Int × ((Int × (List Int)) × (Int × (Int × Int))))) × (List (List (Int × Int))) × List Int × Int × Bool × (List (Int × (Int × (Int × (Int × Int)))))) × ((List (Int × Int)) × (List (Int × Int)) × (List (Int × (Int × (Int × (Int × Int))))) × (List (Int × (Int × Int))) × List ByteArray × List Int × (List (Int × ((Int × (List Int)) × (Int × (Int × Int))))) × (List (List (Int × Int))) × List Int × Int × Bool × (List (Int × (Int × (Int × (Int × Int)))))) × Int → Option (Bool) := laws_FnExactApart_ (fun _ => g_impl_Apart) (fun _ => g_laws_eqKernel) (fun _ => g_laws_szKernel) (fun _ => g_laws_toKernel) (fun _ => g_spec_Apart) 0
theorem e_laws_FnExactApart : ∀ x b, g_laws_FnExactApart x = some b → ∃ k, laws_FnExactApart_ (fun _ => g_impl_Apart) (fun _ => g_laws_eqKernel) (fun _ => g_laws_szKernel) (fun _ => g_laws_toKernel) (fun _ => g_spec_Apart) k x = some b := fun x b h => ⟨0, h⟩
end Go.Sx.T
