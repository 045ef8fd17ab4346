/- Functions of the program as functions of Lean, and that the program keeps to them. -/
import Derived.Test.YtkcfdkfdmglamaaSz4
set_option maxRecDepth 100000
set_option linter.unusedVariables false
set_option linter.unusedSimpArgs false
namespace Go.Proofs
end Go.Proofs
namespace Go.Sx.T
open Go Go.Sx Go.Proofs Go.RowKit
/- slices_Equal___int_int_ -/
def con_slices_Equal___int_int_ (f : Nat → List Int × List Int → Option (Bool)) : Con := ⟨[.c (.sl (.int .i64)), .c (.sl (.int .i64))], 1, [.v false [.bool]], f⟩
def slices_Equal___int_int__L4 : Nat → Int × Int × List Int × List Int × Unit → Option (Bool)
  | 0, _ => none
  | k + 1, (b0, b1, b2, b3, ()) =>
    if b1 < b0 then
     if 0 ≤ b1 then
      if b1 < ((List.length b2 : Nat) : Int) then
       if 0 ≤ b1 then
        if b1 < ((List.length b3 : Nat) : Int) then
         if (List.getD b2 (Int.toNat b1) 0) = (List.getD b3 (Int.toNat b1) 0) then
          slices_Equal___int_int__L4 k (b0, (wrap64 (b1 + 1)), b2, b3, ())
         else
          some false
        else
         none
       else
        none
      else
       none
     else
      none
    else
     some true
def slices_Equal___int_int__ (k : Nat) : List Int × List Int → Option (Bool)
  | (a0, a1) =>
  if ((List.length a0 : Nat) : Int) = ((List.length a1 : Nat) : Int) then
   slices_Equal___int_int__L4 k (((List.length a0 : Nat) : Int), 0, a0, a1, ())
  else
   some false
noncomputable def g_slices_Equal___int_int_ : List Int × List Int → Option (Bool) := evG (slices_Equal___int_int__ )
theorem e_slices_Equal___int_int_ : ∀ x b, g_slices_Equal___int_int_ x = some b → ∃ k, slices_Equal___int_int__  k x = some b := evG_e _
/- impl_samePart -/
def con_impl_samePart (f : Nat → (Int × Int × List Int × Int × Int × Int) × (Int × Int × List Int × Int × Int × Int) → Option (Bool)) : Con := ⟨[.agg [.int .i64, .int .i64, .sl (.int .i64), .int .i64, .int .i64, .int .i64], .agg [.int .i64, .int .i64, .sl (.int .i64), .int .i64, .int .i64, .int .i64]], 1, [.v false [.bool]], f⟩
def impl_samePart_ (slices_Equal___int_int_ : Nat → List Int × List Int → Option (Bool)) (k : Nat) : (Int × Int × List Int × Int × Int × Int) × (Int × Int × List Int × Int × Int × Int) → Option (Bool)
  | ((a0, a1, a2, a3, a4, a5), (a6, a7, a8, a9, a10, a11)) =>
  if a1 = a7 then
   (slices_Equal___int_int_ k (a2, a8)).bind fun v0 =>
   if v0 = true then
    if a0 = a6 then
     if a3 = a9 then
      if a4 = a10 then
       some (decide (a5 = a11))
      else
       some false
     else
      some false
    else
     some false
   else
    some false
  else
   some false
noncomputable def g_impl_samePart : (Int × Int × List Int × Int × Int × Int) × (Int × Int × List Int × Int × Int × Int) → Option (Bool) := impl_samePart_ (fun _ => g_slices_Equal___int_int_) 0
theorem e_impl_samePart : ∀ x b, g_impl_samePart x = some b → ∃ k, impl_samePart_ (fun _ => g_slices_Equal___int_int_) k x = some b := fun x b h => ⟨0, h⟩
/- impl_copyInts -/
def con_impl_copyInts (f : Nat → List Int → Option (List Int)) : Con := ⟨[.c (.sl (.int .i64))], 1, [.v false [.own (.int .i64) 3]], f⟩
def impl_copyInts_ (k : Nat) : List Int → Option (List Int)
  | a0 =>
  if (((List.length ([] : List Int) + List.length a0 : Nat) : Int) * ((8 : Nat) : Int)) ≤ 140737488355328 then some (([] : List Int) ++ a0) else none
noncomputable def g_impl_copyInts : List Int → Option (List Int) := impl_copyInts_  0
theorem e_impl_copyInts : ∀ x b, g_impl_copyInts x = some b → ∃ k, impl_copyInts_  k x = some b := fun x b h => ⟨0, h⟩
/- impl_cellAt -/
def con_impl_cellAt (f : Nat → List Int × (Int × Int) × Int → Option (Int)) : Con := ⟨[.agg [.sl (.int .i64)], .agg [.int .i64, .int .i64], .c (.int .i64)], 1, [.v false [.int .i64]], f⟩
def impl_cellAt_ (k : Nat) : List Int × (Int × Int) × Int → Option (Int)
  | (a0, (a1, a2), a3) =>
  if a1 < 0 then
   some (-1)
  else
   if a3 < 0 then
    some (-1)
   else
    if a2 ≤ a3 then
     some (-1)
    else
     if (wrap64 (((List.length a0 : Nat) : Int) - a1)) ≤ a3 then
      some (-1)
     else
      some (wrap64 (a1 + a3))
noncomputable def g_impl_cellAt : List Int × (Int × Int) × Int → Option (Int) := impl_cellAt_  0
theorem e_impl_cellAt : ∀ x b, g_impl_cellAt x = some b → ∃ k, impl_cellAt_  k x = some b := fun x b h => ⟨0, h⟩
/- impl_CellsOf -/
def con_impl_CellsOf (f : Nat → List Int × (Int × Int) → Option (List Int)) : Con := ⟨[.agg [.sl (.int .i64)], .agg [.int .i64, .int .i64]], 1, [.v false [.own (.int .i64) 3]], f⟩
def impl_CellsOf_L3 (impl_cellAt : Nat → List Int × (Int × Int) × Int → Option (Int)) : Nat → Int × List Int × Int × Int × List Int × Unit → Option (List Int)
  | 0, _ => none
  | k + 1, (b0, b1, b2, b3, b4, ()) =>
    (impl_cellAt k (b1, ((b2, b3), b0))).bind fun v0 =>
    if 0 ≤ v0 then
     if 0 ≤ (wrap64 (b2 + b0)) then
      if (wrap64 (b2 + b0)) < ((List.length b1 : Nat) : Int) then
       if (((List.length b4 + List.length [(List.getD b1 (Int.toNat (wrap64 (b2 + b0))) 0)] : Nat) : Int) * ((8 : Nat) : Int)) ≤ 140737488355328 then impl_CellsOf_L3 impl_cellAt k ((wrap64 (b0 + 1)), b1, b2, b3, (b4 ++ [(List.getD b1 (Int.toNat (wrap64 (b2 + b0))) 0)]), ()) else none
      else
       none
     else
      none
    else
     some b4
def impl_CellsOf_ (impl_cellAt : Nat → List Int × (Int × Int) × Int → Option (Int)) (k : Nat) : List Int × (Int × Int) → Option (List Int)
  | (a0, (a1, a2)) =>
  impl_CellsOf_L3 impl_cellAt k (0, a0, a1, a2, ([] : List Int), ())
noncomputable def g_impl_CellsOf : List Int × (Int × Int) → Option (List Int) := evG (impl_CellsOf_ (fun _ => g_impl_cellAt))
theorem e_impl_CellsOf : ∀ x b, g_impl_CellsOf x = some b → ∃ k, impl_CellsOf_ (fun _ => g_impl_cellAt) k x = some b := evG_e _
/- impl_copyCpu -/
def con_impl_copyCpu (f : Nat → (Int × List Int) → Option ((Int × List Int))) : Con := ⟨[.agg [.int .i64, .sl (.int .i64)]], 1, [.v true [.int .i64, .own (.int .i64) 3]], f⟩
def impl_copyCpu_ (impl_copyInts : Nat → List Int → Option (List Int)) (k : Nat) : (Int × List Int) → Option ((Int × List Int))
  | (a0, a1) =>
  (impl_copyInts k a1).bind fun v0 =>
  some (a0, v0)
noncomputable def g_impl_copyCpu : (Int × List Int) → Option ((Int × List Int)) := impl_copyCpu_ (fun _ => g_impl_copyInts) 0
theorem e_impl_copyCpu : ∀ x b, g_impl_copyCpu x = some b → ∃ k, impl_copyCpu_ (fun _ => g_impl_copyInts) k x = some b := fun x b h => ⟨0, h⟩
/- impl_copyPart -/
def con_impl_copyPart (f : Nat → (Int × Int × List Int × Int × Int × Int) → Option ((Int × Int × List Int × Int × Int × Int))) : Con := ⟨[.agg [.int .i64, .int .i64, .sl (.int .i64), .int .i64, .int .i64, .int .i64]], 1, [.v true [.int .i64, .int .i64, .own (.int .i64) 3, .int .i64, .int .i64, .int .i64]], f⟩
def impl_copyPart_ (impl_copyCpu : Nat → (Int × List Int) → Option ((Int × List Int))) (k : Nat) : (Int × Int × List Int × Int × Int × Int) → Option ((Int × Int × List Int × Int × Int × Int))
  | (a0, a1, a2, a3, a4, a5) =>
  (impl_copyCpu k (a1, a2)).bind fun v0 =>
  some (a0, (v0.1, (v0.2, (a3, (a4, a5)))))
noncomputable def g_impl_copyPart : (Int × Int × List Int × Int × Int × Int) → Option ((Int × Int × List Int × Int × Int × Int)) := impl_copyPart_ (fun _ => g_impl_copyCpu) 0
theorem e_impl_copyPart : ∀ x b, g_impl_copyPart x = some b → ∃ k, impl_copyPart_ (fun _ => g_impl_copyCpu) k x = some b := fun x b h => ⟨0, h⟩
/- impl_within -/
def con_impl_within (f : Nat → Int × Int × Int → Option (Bool)) : Con := ⟨[.c (.int .i64), .c (.int .i64), .c (.int .i64)], 1, [.v false [.bool]], f⟩
def impl_within_ (k : Nat) : Int × Int × Int → Option (Bool)
  | (a0, a1, a2) =>
  if a1 ≤ a0 then
   some (decide (a0 ≤ a2))
  else
   some false
noncomputable def g_impl_within : Int × Int × Int → Option (Bool) := impl_within_  0
theorem e_impl_within : ∀ x b, g_impl_within x = some b → ∃ k, impl_within_  k x = some b := fun x b h => ⟨0, h⟩
/- impl_PartView -/
def con_impl_PartView (f : Nat → ((List (Int × Int)) × (List (Int × Int)) × (List (Int × (Int × (Int × (Int × Int))))) × (List (Int × (Int × Int))) × List ByteArray × List Int × (List (Int × ((Int × (List Int)) × (Int × (Int × Int))))) × (List (List (Int × Int))) × List Int × Int × Bool × (List (Int × (Int × (Int × (Int × Int)))))) × Int → Option ((Int × Int × List Int × Int × Int × Int) × List Int × List Int)) : Con := ⟨[.agg [.sl (.pair (.int .i64) (.int .i64)), .sl (.pair (.int .i64) (.int .i64)), .sl (.pair (.int .i64) (.pair (.int .i64) (.pair (.int .i64) (.pair (.int .i64) (.int .i64))))), .sl (.pair (.int .i64) (.pair (.int .i64) (.int .i64))), .sl .str, .sl (.int .i64), .nsl (.pair (.f (.int .i64)) (.pair (.pair (.f (.int .i64)) (.sl (.int .i64))) (.pair (.f (.int .i64)) (.pair (.f (.int .i64)) (.f (.int .i64)))))), .nsl (.sl (.pair (.int .i64) (.int .i64))), .sl (.int .i64), .int .i64, .bool, .sl (.pair (.int .i64) (.pair (.int .i64) (.pair (.int .i64) (.pair (.int .i64) (.int .i64)))))], .c (.int .i64)], 3, [.v true [.int .i64, .int .i64, .own (.int .i64) 3, .int .i64, .int .i64, .int .i64], .v false [.own (.int .i64) 3], .v false [.own (.int .i64) 3]], f⟩
def impl_PartView_ (impl_CellsOf : Nat → List Int × (Int × Int) → Option (List Int)) (impl_copyInts : Nat → List Int → Option (List Int)) (impl_copyPart : Nat → (Int × Int × List Int × Int × Int × Int) → Option ((Int × Int × List Int × Int × Int × Int))) (impl_within : Nat → Int × Int × Int → Option (Bool)) (k : Nat) : ((List (Int × Int)) × (List (Int × Int)) × (List (Int × (Int × (Int × (Int × Int))))) × (List (Int × (Int × Int))) × List ByteArray × List Int × (List (Int × ((Int × (List Int)) × (Int × (Int × Int))))) × (List (List (Int × Int))) × List Int × Int × Bool × (List (Int × (Int × (Int × (Int × Int)))))) × Int → Option ((Int × Int × List Int × Int × Int × Int) × List Int × List Int)
  | ((a0, a1, a2, a3, a4, a5, a6, a7, a8, a9, a10, a11), a12) =>
  (impl_within k (a12, (1, ((List.length a6 : Nat) : Int)))).bind fun v0 =>
  if v0 = true then
   if ((List.length a0 : Nat) : Int) < a12 then
    some ((0, (0, (([] : List Int), (0, (0, 0))))), (([] : List Int), ([] : List Int)))
   else
    if ((List.length a8 : Nat) : Int) < (wrap64 (2 * a12)) then
     some ((0, (0, (([] : List Int), (0, (0, 0))))), (([] : List Int), ([] : List Int)))
    else
     if 0 ≤ (wrap64 (a12 - 1)) then
      if (wrap64 (a12 - 1)) < ((List.length a6 : Nat) : Int) then
       if 0 ≤ (wrap64 (a12 - 1)) then
        if (wrap64 (a12 - 1)) < ((List.length a0 : Nat) : Int) then (impl_copyPart k ((List.getD a6 (Int.toNat (wrap64 (a12 - 1))) (0, ((0, ([] : List Int)), (0, (0, 0))))).1, ((List.getD a6 (Int.toNat (wrap64 (a12 - 1))) (0, ((0, ([] : List Int)), (0, (0, 0))))).2.1.1, ((List.getD a6 (Int.toNat (wrap64 (a12 - 1))) (0, ((0, ([] : List Int)), (0, (0, 0))))).2.1.2, (List.getD a6 (Int.toNat (wrap64 (a12 - 1))) (0, ((0, ([] : List Int)), (0, (0, 0))))).2.2)))).bind fun v1 =>
         (impl_CellsOf k (a5, (List.getD a0 (Int.toNat (wrap64 (a12 - 1))) (0, 0)))).bind fun v2 =>
         if 0 ≤ (wrap64 (2 * a12)) then
          if (wrap64 (2 * a12)) ≤ ((List.length a8 : Nat) : Int) then
           if 0 ≤ (wrap64 ((wrap64 (2 * a12)) - 2)) then
            if (wrap64 ((wrap64 (2 * a12)) - 2)) ≤ (wrap64 (2 * a12)) then (impl_copyInts k (List.drop (Int.toNat (wrap64 ((wrap64 (2 * a12)) - 2))) (List.take (Int.toNat (wrap64 (2 * a12))) a8))).bind fun v3 =>
             some (v1, (v2, v3)) else none
           else
            none
          else
           none
         else
          none else none
       else
        none
      else
       none
     else
      none
  else
   some ((0, (0, (([] : List Int), (0, (0, 0))))), (([] : List Int), ([] : List Int)))
noncomputable def g_impl_PartView : ((List (Int × Int)) × (List (Int × Int)) × (List (Int × (Int × (Int × (Int × Int))))) × (List (Int × (Int × Int))) × List ByteArray × List Int × (List (Int × ((Int × (List Int)) × (Int × (Int × Int))))) × (List (List (Int × Int))) × List Int × Int × Bool × (List (Int × (Int × (Int × (Int × Int)))))) × Int → Option ((Int × Int × List Int × Int × Int × Int) × List Int × List Int) := impl_PartView_ (fun _ => g_impl_CellsOf) (fun _ => g_impl_copyInts) (fun _ => g_impl_copyPart) (fun _ => g_impl_within) 0
theorem e_impl_PartView : ∀ x b, g_impl_PartView x = some b → ∃ k, impl_PartView_ (fun _ => g_impl_CellsOf) (fun _ => g_impl_copyInts) (fun _ => g_impl_copyPart) (fun _ => g_impl_within) k x = some b := fun x b h => ⟨0, h⟩
/- impl_Apart -/
def con_impl_Apart (f : Nat → ((List (Int × Int)) × (List (Int × Int)) × (List (Int × (Int × (Int × (Int × Int))))) × (List (Int × (Int × Int))) × List ByteArray × List Int × (List (Int × ((Int × (List Int)) × (Int × (Int × Int))))) × (List (List (Int × Int))) × List Int × Int × Bool × (List (Int × (Int × (Int × (Int × Int)))))) × ((List (Int × Int)) × (List (Int × Int)) × (List (Int × (Int × (Int × (Int × Int))))) × (List (Int × (Int × Int))) × List ByteArray × List Int × (List (Int × ((Int × (List Int)) × (Int × (Int × Int))))) × (List (List (Int × Int))) × List Int × Int × Bool × (List (Int × (Int × (Int × (Int × Int)))))) × Int → Option (Bool)) : Con := ⟨[.agg [.sl (.pair (.int .i64) (.int .i64)), .sl (.pair (.int .i64) (.int .i64)), .sl (.pair (.int .i64) (.pair (.int .i64) (.pair (.int .i64) (.pair (.int .i64) (.int .i64))))), .sl (.pair (.int .i64) (.pair (.int .i64) (.int .i64))), .sl .str, .sl (.int .i64), .nsl (.pair (.f (.int .i64)) (.pair (.pair (.f (.int .i64)) (.sl (.int .i64))) (.pair (.f (.int .i64)) (.pair (.f (.int .i64)) (.f (.int .i64)))))), .nsl (.sl (.pair (.int .i64) (.int .i64))), .sl (.int .i64), .int .i64, .bool, .sl (.pair (.int .i64) (.pair (.int .i64) (.pair (.int .i64) (.pair (.int .i64) (.int .i64)))))], .agg [.sl (.pair (.int .i64) (.int .i64)), .sl (.pair (.int .i64) (.int .i64)), .sl (.pair (.int .i64) (.pair (.int .i64) (.pair (.int .i64) (.pair (.int .i64) (.int .i64))))), .sl (.pair (.int .i64) (.pair (.int .i64) (.int .i64))), .sl .str, .sl (.int .i64), .nsl (.pair (.f (.int .i64)) (.pair (.pair (.f (.int .i64)) (.sl (.int .i64))) (.pair (.f (.int .i64)) (.pair (.f (.int .i64)) (.f (.int .i64)))))), .nsl (.sl (.pair (.int .i64) (.int .i64))), .sl (.int .i64), .int .i64, .bool, .sl (.pair (.int .i64) (.pair (.int .i64) (.pair (.int .i64) (.pair (.int .i64) (.int .i64)))))], .c (.int .i64)], 1, [.v false [.bool]], f⟩
def impl_Apart_ (impl_PartView : Nat → ((List (Int × Int)) × (List (Int × Int)) × (List (Int × (Int × (Int × (Int × Int))))) × (List (Int × (Int × Int))) × List ByteArray × List Int × (List (Int × ((Int × (List Int)) × (Int × (Int × Int))))) × (List (List (Int × Int))) × List Int × Int × Bool × (List (Int × (Int × (Int × (Int × Int)))))) × Int → Option ((Int × Int × List Int × Int × Int × Int) × List Int × List Int)) (impl_samePart : Nat → (Int × Int × List Int × Int × Int × Int) × (Int × Int × List Int × Int × Int × Int) → Option (Bool)) (slices_Equal___int_int_ : Nat → List Int × List Int → Option (Bool)) (k : Nat) : ((List (Int × Int)) × (List (Int × Int)) × (List (Int × (Int × (Int × (Int × Int))))) × (List (Int × (Int × Int))) × List ByteArray × List Int × (List (Int × ((Int × (List Int)) × (Int × (Int × Int))))) × (List (List (Int × Int))) × List Int × Int × Bool × (List (Int × (Int × (Int × (Int × Int)))))) × ((List (Int × Int)) × (List (Int × Int)) × (List (Int × (Int × (Int × (Int × Int))))) × (List (Int × (Int × Int))) × List ByteArray × List Int × (List (Int × ((Int × (List Int)) × (Int × (Int × Int))))) × (List (List (Int × Int))) × List Int × Int × Bool × (List (Int × (Int × (Int × (Int × Int)))))) × Int → Option (Bool)
  | ((a0, a1, a2, a3, a4, a5, a6, a7, a8, a9, a10, a11), (a12, a13, a14, a15, a16, a17, a18, a19, a20, a21, a22, a23), a24) =>
  (impl_PartView k ((a0, (a1, (a2, (a3, (a4, (a5, (a6, (a7, (a8, (a9, (a10, a11))))))))))), a24)).bind fun v0 =>
  (impl_PartView k ((a12, (a13, (a14, (a15, (a16, (a17, (a18, (a19, (a20, (a21, (a22, a23))))))))))), a24)).bind fun v1 =>
  (impl_samePart k (v0.1, v1.1)).bind fun v2 =>
  if v2 = true then
   (slices_Equal___int_int_ k (v0.2.1, v1.2.1)).bind fun v3 =>
   if v3 = true then
    (slices_Equal___int_int_ k (v0.2.2, v1.2.2)).bind fun v4 =>
    some v4
   else
    some false
  else
   some false
noncomputable def g_impl_Apart : ((List (Int × Int)) × (List (Int × Int)) × (List (Int × (Int × (Int × (Int × Int))))) × (List (Int × (Int × Int))) × List ByteArray × List Int × (List (Int × ((Int × (List Int)) × (Int × (Int × Int))))) × (List (List (Int × Int))) × List Int × Int × Bool × (List (Int × (Int × (Int × (Int × Int)))))) × ((List (Int × Int)) × (List (Int × Int)) × (List (Int × (Int × (Int × (Int × Int))))) × (List (Int × (Int × Int))) × List ByteArray × List Int × (List (Int × ((Int × (List Int)) × (Int × (Int × Int))))) × (List (List (Int × Int))) × List Int × Int × Bool × (List (Int × (Int × (Int × (Int × Int)))))) × Int → Option (Bool) := impl_Apart_ (fun _ => g_impl_PartView) (fun _ => g_impl_samePart) (fun _ => g_slices_Equal___int_int_) 0
theorem e_impl_Apart : ∀ x b, g_impl_Apart x = some b → ∃ k, impl_Apart_ (fun _ => g_impl_PartView) (fun _ => g_impl_samePart) (fun _ => g_slices_Equal___int_int_) k x = some b := fun x b h => ⟨0, h⟩
/- spec_l19Same -/
def con_spec_l19Same (f : Nat → List Int × List Int → Option (Bool)) : Con := ⟨[.c (.sl (.int .i64)), .c (.sl (.int .i64))], 1, [.v false [.bool]], f⟩
def spec_l19Same_L4 : Nat → Int × List Int × List Int × Unit → Option (Bool)
  | 0, _ => none
  | k + 1, (b0, b1, b2, ()) =>
    if b0 < ((List.length b1 : Nat) : Int) then
     if 0 ≤ b0 then
      if b0 < ((List.length b1 : Nat) : Int) then
       if 0 ≤ b0 then
        if b0 < ((List.length b2 : Nat) : Int) then
         if (List.getD b1 (Int.toNat b0) 0) = (List.getD b2 (Int.toNat b0) 0) then
          spec_l19Same_L4 k ((wrap64 (b0 + 1)), b1, b2, ())
         else
          some false
        else
         none
       else
        none
      else
       none
     else
      none
    else
     some true
def spec_l19Same_ (k : Nat) : List Int × List Int → Option (Bool)
  | (a0, a1) =>
  if ((List.length a0 : Nat) : Int) = ((List.length a1 : Nat) : Int) then
   spec_l19Same_L4 k (0, a0, a1, ())
  else
   some false
noncomputable def g_spec_l19Same : List Int × List Int → Option (Bool) := evG (spec_l19Same_ )
theorem e_spec_l19Same : ∀ x b, g_spec_l19Same x = some b → ∃ k, spec_l19Same_  k x = some b := evG_e _
/- spec_l01In -/
def con_spec_l01In (f : Nat → Int × Int × Int → Option (Bool)) : Con := ⟨[.c (.int .i64), .c (.int .i64), .c (.int .i64)], 1, [.v false [.bool]], f⟩
def spec_l01In_ (k : Nat) : Int × Int × Int → Option (Bool)
  | (a0, a1, a2) =>
  if a1 ≤ a0 then
   some (decide (a0 ≤ a2))
  else
   some false
noncomputable def g_spec_l01In : Int × Int × Int → Option (Bool) := spec_l01In_  0
theorem e_spec_l01In : ∀ x b, g_spec_l01In x = some b → ∃ k, spec_l01In_  k x = some b := fun x b h => ⟨0, h⟩
/- spec_l04At -/
def con_spec_l04At (f : Nat → List Int × (Int × Int) × Int → Option (Int)) : Con := ⟨[.agg [.sl (.int .i64)], .agg [.int .i64, .int .i64], .c (.int .i64)], 1, [.v false [.int .i64]], f⟩
def spec_l04At_ (spec_l01In : Nat → Int × Int × Int → Option (Bool)) (k : Nat) : List Int × (Int × Int) × Int → Option (Int)
  | (a0, (a1, a2), a3) =>
  if a3 < 0 then
   some (-1)
  else
   if a2 ≤ a3 then
    some (-1)
   else
    (spec_l01In k (a1, (0, (wrap64 (((List.length a0 : Nat) : Int) - 1))))).bind fun v0 =>
    if v0 = true then
     if (wrap64 (((List.length a0 : Nat) : Int) - a1)) ≤ a3 then
      some (-1)
     else
      some (wrap64 (a1 + a3))
    else
     some (-1)
noncomputable def g_spec_l04At : List Int × (Int × Int) × Int → Option (Int) := spec_l04At_ (fun _ => g_spec_l01In) 0
theorem e_spec_l04At : ∀ x b, g_spec_l04At x = some b → ∃ k, spec_l04At_ (fun _ => g_spec_l01In) k x = some b := fun x b h => ⟨0, h⟩
/- spec_CellsOf -/
def con_spec_CellsOf (f : Nat → List Int × (Int × Int) → Option (List Int)) : Con := ⟨[.agg [.sl (.int .i64)], .agg [.int .i64, .int .i64]], 1, [.v false [.own (.int .i64) 3]], f⟩
def spec_CellsOf_L3 (spec_l04At : Nat → List Int × (Int × Int) × Int → Option (Int)) : Nat → Int × List Int × Int × Int × List Int × Unit → Option (List Int)
  | 0, _ => none
  | k + 1, (b0, b1, b2, b3, b4, ()) =>
    if b0 < b3 then
     if b0 < ((List.length b1 : Nat) : Int) then
      (spec_l04At k (b1, ((b2, b3), b0))).bind fun v0 =>
      if 0 ≤ v0 then
       if 0 ≤ v0 then
        if v0 < ((List.length b1 : Nat) : Int) then
         if (((List.length b4 + List.length [(List.getD b1 (Int.toNat v0) 0)] : Nat) : Int) * ((8 : Nat) : Int)) ≤ 140737488355328 then spec_CellsOf_L3 spec_l04At k ((wrap64 (b0 + 1)), b1, b2, b3, (b4 ++ [(List.getD b1 (Int.toNat v0) 0)]), ()) else none
        else
         none
       else
        none
      else
       spec_CellsOf_L3 spec_l04At k ((wrap64 (b0 + 1)), b1, b2, b3, b4, ())
     else
      some b4
    else
     some b4
def spec_CellsOf_ (spec_l04At : Nat → List Int × (Int × Int) × Int → Option (Int)) (k : Nat) : List Int × (Int × Int) → Option (List Int)
  | (a0, (a1, a2)) =>
  spec_CellsOf_L3 spec_l04At k (0, a0, a1, a2, ([] : List Int), ())
noncomputable def g_spec_CellsOf : List Int × (Int × Int) → Option (List Int) := evG (spec_CellsOf_ (fun _ => g_spec_l04At))
theorem e_spec_CellsOf : ∀ x b, g_spec_CellsOf x = some b → ∃ k, spec_CellsOf_ (fun _ => g_spec_l04At) k x = some b := evG_e _
/- spec_l06Copy -/
def con_spec_l06Copy (f : Nat → (Int × List Int) → Option ((Int × List Int))) : Con := ⟨[.agg [.int .i64, .sl (.int .i64)]], 1, [.v true [.int .i64, .own (.int .i64) 3]], f⟩
def spec_l06Copy_ (k : Nat) : (Int × List Int) → Option ((Int × List Int))
  | (a0, a1) =>
  if (((List.length ([] : List Int) + List.length a1 : Nat) : Int) * ((8 : Nat) : Int)) ≤ 140737488355328 then some (a0, (([] : List Int) ++ a1)) else none
noncomputable def g_spec_l06Copy : (Int × List Int) → Option ((Int × List Int)) := spec_l06Copy_  0
theorem e_spec_l06Copy : ∀ x b, g_spec_l06Copy x = some b → ∃ k, spec_l06Copy_  k x = some b := fun x b h => ⟨0, h⟩
/- spec_PartView -/
def con_spec_PartView (f : Nat → ((List (Int × Int)) × (List (Int × Int)) × (List (Int × (Int × (Int × (Int × Int))))) × (List (Int × (Int × Int))) × List ByteArray × List Int × (List (Int × ((Int × (List Int)) × (Int × (Int × Int))))) × (List (List (Int × Int))) × List Int × Int × Bool × (List (Int × (Int × (Int × (Int × Int)))))) × Int → Option ((Int × Int × List Int × Int × Int × Int) × List Int × List Int)) : Con := ⟨[.agg [.sl (.pair (.int .i64) (.int .i64)), .sl (.pair (.int .i64) (.int .i64)), .sl (.pair (.int .i64) (.pair (.int .i64) (.pair (.int .i64) (.pair (.int .i64) (.int .i64))))), .sl (.pair (.int .i64) (.pair (.int .i64) (.int .i64))), .sl .str, .sl (.int .i64), .nsl (.pair (.f (.int .i64)) (.pair (.pair (.f (.int .i64)) (.sl (.int .i64))) (.pair (.f (.int .i64)) (.pair (.f (.int .i64)) (.f (.int .i64)))))), .nsl (.sl (.pair (.int .i64) (.int .i64))), .sl (.int .i64), .int .i64, .bool, .sl (.pair (.int .i64) (.pair (.int .i64) (.pair (.int .i64) (.pair (.int .i64) (.int .i64)))))], .c (.int .i64)], 3, [.v true [.int .i64, .int .i64, .own (.int .i64) 3, .int .i64, .int .i64, .int .i64], .v false [.own (.int .i64) 3], .v false [.own (.int .i64) 3]], f⟩
def spec_PartView_ (spec_CellsOf : Nat → List Int × (Int × Int) → Option (List Int)) (spec_l01In : Nat → Int × Int × Int → Option (Bool)) (spec_l06Copy : Nat → (Int × List Int) → Option ((Int × List Int))) (k : Nat) : ((List (Int × Int)) × (List (Int × Int)) × (List (Int × (Int × (Int × (Int × Int))))) × (List (Int × (Int × Int))) × List ByteArray × List Int × (List (Int × ((Int × (List Int)) × (Int × (Int × Int))))) × (List (List (Int × Int))) × List Int × Int × Bool × (List (Int × (Int × (Int × (Int × Int)))))) × Int → Option ((Int × Int × List Int × Int × Int × Int) × List Int × List Int)
  | ((a0, a1, a2, a3, a4, a5, a6, a7, a8, a9, a10, a11), a12) =>
  (spec_l01In k (a12, (1, ((List.length a6 : Nat) : Int)))).bind fun v0 =>
  if v0 = true then
   if ((List.length a0 : Nat) : Int) < a12 then
    some ((0, (0, (([] : List Int), (0, (0, 0))))), (([] : List Int), ([] : List Int)))
   else
    if ((List.length a8 : Nat) : Int) < (wrap64 (2 * a12)) then
     some ((0, (0, (([] : List Int), (0, (0, 0))))), (([] : List Int), ([] : List Int)))
    else
     if 0 ≤ (wrap64 (a12 - 1)) then
      if (wrap64 (a12 - 1)) < ((List.length a6 : Nat) : Int) then (spec_l06Copy k (List.getD a6 (Int.toNat (wrap64 (a12 - 1))) (0, ((0, ([] : List Int)), (0, (0, 0))))).2.1).bind fun v1 =>
       if 0 ≤ (wrap64 (a12 - 1)) then
        if (wrap64 (a12 - 1)) < ((List.length a0 : Nat) : Int) then
         if 0 ≤ (wrap64 ((wrap64 (2 * a12)) - 2)) then
          if (wrap64 ((wrap64 (2 * a12)) - 2)) < ((List.length a8 : Nat) : Int) then
           if 0 ≤ (wrap64 ((wrap64 (2 * a12)) - 1)) then
            if (wrap64 ((wrap64 (2 * a12)) - 1)) < ((List.length a8 : Nat) : Int) then (spec_CellsOf k (a5, (List.getD a0 (Int.toNat (wrap64 (a12 - 1))) (0, 0)))).bind fun v2 =>
             some (((List.getD a6 (Int.toNat (wrap64 (a12 - 1))) (0, ((0, ([] : List Int)), (0, (0, 0))))).1, (v1.1, (v1.2, (List.getD a6 (Int.toNat (wrap64 (a12 - 1))) (0, ((0, ([] : List Int)), (0, (0, 0))))).2.2))), (v2, [(List.getD a8 (Int.toNat (wrap64 ((wrap64 (2 * a12)) - 2))) 0), (List.getD a8 (Int.toNat (wrap64 ((wrap64 (2 * a12)) - 1))) 0)])) else none
           else
            none
          else
           none
         else
          none
        else
         none
       else
        none else none
     else
      none
  else
   some ((0, (0, (([] : List Int), (0, (0, 0))))), (([] : List Int), ([] : List Int)))
noncomputable def g_spec_PartView : ((List (Int × Int)) × (List (Int × Int)) × (List (Int × (Int × (Int × (Int × Int))))) × (List (Int × (Int × Int))) × List ByteArray × List Int × (List (Int × ((Int × (List Int)) × (Int × (Int × Int))))) × (List (List (Int × Int))) × List Int × Int × Bool × (List (Int × (Int × (Int × (Int × Int)))))) × Int → Option ((Int × Int × List Int × Int × Int × Int) × List Int × List Int) := spec_PartView_ (fun _ => g_spec_CellsOf) (fun _ => g_spec_l01In) (fun _ => g_spec_l06Copy) 0
theorem e_spec_PartView : ∀ x b, g_spec_PartView x = some b → ∃ k, spec_PartView_ (fun _ => g_spec_CellsOf) (fun _ => g_spec_l01In) (fun _ => g_spec_l06Copy) k x = some b := fun x b h => ⟨0, h⟩
/- spec_Apart -/
def con_spec_Apart (f : Nat → ((List (Int × Int)) × (List (Int × Int)) × (List (Int × (Int × (Int × (Int × Int))))) × (List (Int × (Int × Int))) × List ByteArray × List Int × (List (Int × ((Int × (List Int)) × (Int × (Int × Int))))) × (List (List (Int × Int))) × List Int × Int × Bool × (List (Int × (Int × (Int × (Int × Int)))))) × ((List (Int × Int)) × (List (Int × Int)) × (List (Int × (Int × (Int × (Int × Int))))) × (List (Int × (Int × Int))) × List ByteArray × List Int × (List (Int × ((Int × (List Int)) × (Int × (Int × Int))))) × (List (List (Int × Int))) × List Int × Int × Bool × (List (Int × (Int × (Int × (Int × Int)))))) × Int → Option (Bool)) : Con := ⟨[.agg [.sl (.pair (.int .i64) (.int .i64)), .sl (.pair (.int .i64) (.int .i64)), .sl (.pair (.int .i64) (.pair (.int .i64) (.pair (.int .i64) (.pair (.int .i64) (.int .i64))))), .sl (.pair (.int .i64) (.pair (.int .i64) (.int .i64))), .sl .str, .sl (.int .i64), .nsl (.pair (.f (.int .i64)) (.pair (.pair (.f (.int .i64)) (.sl (.int .i64))) (.pair (.f (.int .i64)) (.pair (.f (.int .i64)) (.f (.int .i64)))))), .nsl (.sl (.pair (.int .i64) (.int .i64))), .sl (.int .i64), .int .i64, .bool, .sl (.pair (.int .i64) (.pair (.int .i64) (.pair (.int .i64) (.pair (.int .i64) (.int .i64)))))], .agg [.sl (.pair (.int .i64) (.int .i64)), .sl (.pair (.int .i64) (.int .i64)), .sl (.pair (.int .i64) (.pair (.int .i64) (.pair (.int .i64) (.pair (.int .i64) (.int .i64))))), .sl (.pair (.int .i64) (.pair (.int .i64) (.int .i64))), .sl .str, .sl (.int .i64), .nsl (.pair (.f (.int .i64)) (.pair (.pair (.f (.int .i64)) (.sl (.int .i64))) (.pair (.f (.int .i64)) (.pair (.f (.int .i64)) (.f (.int .i64)))))), .nsl (.sl (.pair (.int .i64) (.int .i64))), .sl (.int .i64), .int .i64, .bool, .sl (.pair (.int .i64) (.pair (.int .i64) (.pair (.int .i64) (.pair (.int .i64) (.int .i64)))))], .c (.int .i64)], 1, [.v false [.bool]], f⟩
def spec_Apart_ (spec_PartView : Nat → ((List (Int × Int)) × (List (Int × Int)) × (List (Int × (Int × (Int × (Int × Int))))) × (List (Int × (Int × Int))) × List ByteArray × List Int × (List (Int × ((Int × (List Int)) × (Int × (Int × Int))))) × (List (List (Int × Int))) × List Int × Int × Bool × (List (Int × (Int × (Int × (Int × Int)))))) × Int → Option ((Int × Int × List Int × Int × Int × Int) × List Int × List Int)) (spec_l19Same : Nat → List Int × List Int → Option (Bool)) (k : Nat) : ((List (Int × Int)) × (List (Int × Int)) × (List (Int × (Int × (Int × (Int × Int))))) × (List (Int × (Int × Int))) × List ByteArray × List Int × (List (Int × ((Int × (List Int)) × (Int × (Int × Int))))) × (List (List (Int × Int))) × List Int × Int × Bool × (List (Int × (Int × (Int × (Int × Int)))))) × ((List (Int × Int)) × (List (Int × Int)) × (List (Int × (Int × (Int × (Int × Int))))) × (List (Int × (Int × Int))) × List ByteArray × List Int × (List (Int × ((Int × (List Int)) × (Int × (Int × Int))))) × (List (List (Int × Int))) × List Int × Int × Bool × (List (Int × (Int × (Int × (Int × Int)))))) × Int → Option (Bool)
  | ((a0, a1, a2, a3, a4, a5, a6, a7, a8, a9, a10, a11), (a12, a13, a14, a15, a16, a17, a18, a19, a20, a21, a22, a23), a24) =>
  (spec_PartView k ((a0, (a1, (a2, (a3, (a4, (a5, (a6, (a7, (a8, (a9, (a10, a11))))))))))), a24)).bind fun v0 =>
  (spec_PartView k ((a12, (a13, (a14, (a15, (a16, (a17, (a18, (a19, (a20, (a21, (a22, a23))))))))))), a24)).bind fun v1 =>
  if v0.1.1 = v1.1.1 then
   if v0.1.2.1 = v1.1.2.1 then
    (spec_l19Same k (v0.1.2.2.1, v1.1.2.2.1)).bind fun v2 =>
    if v2 = true then
     if v0.1.2.2.2.1 = v1.1.2.2.2.1 then
      if v0.1.2.2.2.2.1 = v1.1.2.2.2.2.1 then
       if v0.1.2.2.2.2.2 = v1.1.2.2.2.2.2 then
        (spec_l19Same k (v0.2.1, v1.2.1)).bind fun v3 =>
        if v3 = true then
         (spec_l19Same k (v0.2.2, v1.2.2)).bind fun v4 =>
         some v4
        else
         some false
       else
        some false
      else
       some false
     else
      some false
    else
     some false
   else
    some false
  else
   some false
noncomputable def g_spec_Apart : ((List (Int × Int)) × (List (Int × Int)) × (List (Int × (Int × (Int × (Int × Int))))) × (List (Int × (Int × Int))) × List ByteArray × List Int × (List (Int × ((Int × (List Int)) × (Int × (Int × Int))))) × (List (List (Int × Int))) × List Int × Int × Bool × (List (Int × (Int × (Int × (Int × Int)))))) × ((List (Int × Int)) × (List (Int × Int)) × (List (Int × (Int × (Int × (Int × Int))))) × (List (Int × (Int × Int))) × List ByteArray × List Int × (List (Int × ((Int × (List Int)) × (Int × (Int × Int))))) × (List (List (Int × Int))) × List Int × Int × Bool × (List (Int × (Int × (Int × (Int × Int)))))) × Int → Option (Bool) := spec_Apart_ (fun _ => g_spec_PartView) (fun _ => g_spec_l19Same) 0
theorem e_spec_Apart : ∀ x b, g_spec_Apart x = some b → ∃ k, spec_Apart_ (fun _ => g_spec_PartView) (fun _ => g_spec_l19Same) k x = some b := fun x b h => ⟨0, h⟩
/- spec_PlanOk -/
def con_spec_PlanOk (f : Nat → ((List (Int × Int))) → Option (Bool)) : Con := ⟨[.c (.sl (.pair (.int .i64) (.int .i64)))], 1, [.v false [.bool]], f⟩
def spec_PlanOk_L2 (spec_l01In : Nat → Int × Int × Int → Option (Bool)) : Nat → Int × (List (Int × Int)) × Unit → Option (Bool)
  | 0, _ => none
  | k + 1, (b0, b1, ()) =>
    if b0 < ((List.length b1 : Nat) : Int) then
     if 0 ≤ b0 then
      if b0 < ((List.length b1 : Nat) : Int) then (spec_l01In k ((List.getD b1 (Int.toNat b0) (0, 0)).1, (1, 4))).bind fun v0 =>
       if v0 = true then
        if 0 ≤ b0 then
         if b0 < ((List.length b1 : Nat) : Int) then (spec_l01In k ((List.getD b1 (Int.toNat b0) (0, 0)).2, (1, 200))).bind fun v1 =>
          if v1 = true then
           spec_PlanOk_L2 spec_l01In k ((wrap64 (b0 + 1)), b1, ())
          else
           some false else none
        else
         none
       else
        some false else none
     else
      none
    else
     (spec_l01In k (((List.length b1 : Nat) : Int), (1, 12))).bind fun v2 =>
     some v2
def spec_PlanOk_ (spec_l01In : Nat → Int × Int × Int → Option (Bool)) (k : Nat) : ((List (Int × Int))) → Option (Bool)
  | a0 =>
  spec_PlanOk_L2 spec_l01In k (0, a0, ())
noncomputable def g_spec_PlanOk : ((List (Int × Int))) → Option (Bool) := evG (spec_PlanOk_ (fun _ => g_spec_l01In))
theorem e_spec_PlanOk : ∀ x b, g_spec_PlanOk x = some b → ∃ k, spec_PlanOk_ (fun _ => g_spec_l01In) k x = some b := evG_e _
/- spec_WindowAt -/
def con_spec_WindowAt (f : Nat → ((List (Int × Int))) × Int → Option ((Int × Int))) : Con := ⟨[.c (.sl (.pair (.int .i64) (.int .i64))), .c (.int .i64)], 1, [.v true [.int .i64, .int .i64]], f⟩
def spec_WindowAt_ (spec_PlanOk : Nat → ((List (Int × Int))) → Option (Bool)) (k : Nat) : ((List (Int × Int))) × Int → Option ((Int × Int))
  | (a0, a1) =>
  (spec_PlanOk k a0).bind fun v0 =>
  if v0 = true then
   if a1 < 0 then
    some (0, 0)
   else
    if ((List.length a0 : Nat) : Int) = 0 then
     none
    else
     if 0 ≤ (Int.tmod a1 ((List.length a0 : Nat) : Int)) then
      if (Int.tmod a1 ((List.length a0 : Nat) : Int)) < ((List.length a0 : Nat) : Int) then some (List.getD a0 (Int.toNat (Int.tmod a1 ((List.length a0 : Nat) : Int))) (0, 0)) else none
     else
      none
  else
   some (0, 0)
noncomputable def g_spec_WindowAt : ((List (Int × Int))) × Int → Option ((Int × Int)) := spec_WindowAt_ (fun _ => g_spec_PlanOk) 0
theorem e_spec_WindowAt : ∀ x b, g_spec_WindowAt x = some b → ∃ k, spec_WindowAt_ (fun _ => g_spec_PlanOk) k x = some b := fun x b h => ⟨0, h⟩
/- spec_l04Copy -/
def con_spec_l04Copy (f : Nat → List Int → Option (List Int)) : Con := ⟨[.agg [.sl (.int .i64)]], 1, [.v true [.own (.int .i64) 3]], f⟩
def spec_l04Copy_ (k : Nat) : List Int → Option (List Int)
  | a0 =>
  if (((List.length ([] : List Int) + List.length a0 : Nat) : Int) * ((8 : Nat) : Int)) ≤ 140737488355328 then some (([] : List Int) ++ a0) else none
noncomputable def g_spec_l04Copy : List Int → Option (List Int) := spec_l04Copy_  0
theorem e_spec_l04Copy : ∀ x b, g_spec_l04Copy x = some b → ∃ k, spec_l04Copy_  k x = some b := fun x b h => ⟨0, h⟩
/- spec_l04Mod -/
def con_spec_l04Mod (f : Nat → Int → Option (Int)) : Con := ⟨[.c (.int .i64)], 1, [.v false [.int .i64]], f⟩
def spec_l04Mod_ (k : Nat) : Int → Option (Int)
  | a0 =>
  if 65536 = 0 then
   none
  else
   if (Int.tmod a0 65536) < 0 then
    some (wrap64 ((Int.tmod a0 65536) + 65536))
   else
    some (Int.tmod a0 65536)
noncomputable def g_spec_l04Mod : Int → Option (Int) := spec_l04Mod_  0
theorem e_spec_l04Mod : ∀ x b, g_spec_l04Mod x = some b → ∃ k, spec_l04Mod_  k x = some b := fun x b h => ⟨0, h⟩
/- spec_LoadCell -/
def con_spec_LoadCell (f : Nat → List Int × (Int × Int) × Int → Option (Int × Bool)) : Con := ⟨[.agg [.sl (.int .i64)], .agg [.int .i64, .int .i64], .c (.int .i64)], 2, [.v false [.int .i64], .v false [.bool]], f⟩
def spec_LoadCell_ (spec_l04At : Nat → List Int × (Int × Int) × Int → Option (Int)) (k : Nat) : List Int × (Int × Int) × Int → Option (Int × Bool)
  | (a0, (a1, a2), a3) =>
  (spec_l04At k (a0, ((a1, a2), a3))).bind fun v0 =>
  if v0 < 0 then
   some (0, false)
  else
   if 0 ≤ v0 then
    if v0 < ((List.length a0 : Nat) : Int) then some ((List.getD a0 (Int.toNat v0) 0), true) else none
   else
    none
noncomputable def g_spec_LoadCell : List Int × (Int × Int) × Int → Option (Int × Bool) := spec_LoadCell_ (fun _ => g_spec_l04At) 0
theorem e_spec_LoadCell : ∀ x b, g_spec_LoadCell x = some b → ∃ k, spec_LoadCell_ (fun _ => g_spec_l04At) k x = some b := fun x b h => ⟨0, h⟩
/- spec_StoreCell -/
def con_spec_StoreCell (f : Nat → List Int × (Int × Int) × Int × Int → Option (List Int × Bool)) : Con := ⟨[.agg [.sl (.int .i64)], .agg [.int .i64, .int .i64], .c (.int .i64), .c (.int .i64)], 2, [.v true [.own (.int .i64) 3], .v false [.bool]], f⟩
def spec_StoreCell_ (spec_l04At : Nat → List Int × (Int × Int) × Int → Option (Int)) (spec_l04Copy : Nat → List Int → Option (List Int)) (spec_l04Mod : Nat → Int → Option (Int)) (k : Nat) : List Int × (Int × Int) × Int × Int → Option (List Int × Bool)
  | (a0, (a1, a2), a3, a4) =>
  (spec_l04Copy k a0).bind fun v0 =>
  (spec_l04At k (a0, ((a1, a2), a3))).bind fun v1 =>
  if v1 < 0 then
   some (v0, false)
  else
   (spec_l04Mod k a4).bind fun v2 =>
   if 0 ≤ v1 then
    if v1 < ((List.length v0 : Nat) : Int) then some ((List.set v0 (Int.toNat v1) v2), true) else none
   else
    none
noncomputable def g_spec_StoreCell : List Int × (Int × Int) × Int × Int → Option (List Int × Bool) := spec_StoreCell_ (fun _ => g_spec_l04At) (fun _ => g_spec_l04Copy) (fun _ => g_spec_l04Mod) 0
theorem e_spec_StoreCell : ∀ x b, g_spec_StoreCell x = some b → ∃ k, spec_StoreCell_ (fun _ => g_spec_l04At) (fun _ => g_spec_l04Copy) (fun _ => g_spec_l04Mod) k x = some b := fun x b h => ⟨0, h⟩
/- spec_ClearCells -/
def con_spec_ClearCells (f : Nat → List Int × (Int × Int) → Option (List Int)) : Con := ⟨[.agg [.sl (.int .i64)], .agg [.int .i64, .int .i64]], 1, [.v true [.own (.int .i64) 3]], f⟩
def spec_ClearCells_L3 (spec_l04At : Nat → List Int × (Int × Int) × Int → Option (Int)) (spec_l04Copy : Nat → List Int → Option (List Int)) : Nat → Int × List Int × Int × Int × List Int × List Int × Unit → Option (List Int)
  | 0, _ => none
  | k + 1, (b0, b1, b2, b3, b4, b5, ()) =>
    if b0 < b3 then
     if b0 < ((List.length b1 : Nat) : Int) then
      (spec_l04At k (b1, ((b2, b3), b0))).bind fun v0 =>
      if 0 ≤ v0 then
       if 0 ≤ v0 then
        if v0 < ((List.length b5 : Nat) : Int) then spec_ClearCells_L3 spec_l04At spec_l04Copy k ((wrap64 (b0 + 1)), b1, b2, b3, b4, (List.set b5 (Int.toNat v0) 0), ()) else none
       else
        none
      else
       spec_ClearCells_L3 spec_l04At spec_l04Copy k ((wrap64 (b0 + 1)), b1, b2, b3, b4, b5, ())
     else
      some b5
    else
     some b5
def spec_ClearCells_ (spec_l04At : Nat → List Int × (Int × Int) × Int → Option (Int)) (spec_l04Copy : Nat → List Int → Option (List Int)) (k : Nat) : List Int × (Int × Int) → Option (List Int)
  | (a0, (a1, a2)) =>
  (spec_l04Copy k a0).bind fun v0 =>
  spec_ClearCells_L3 spec_l04At spec_l04Copy k (0, a0, a1, a2, [], v0, ())
noncomputable def g_spec_ClearCells : List Int × (Int × Int) → Option (List Int) := evG (spec_ClearCells_ (fun _ => g_spec_l04At) (fun _ => g_spec_l04Copy))
theorem e_spec_ClearCells : ∀ x b, g_spec_ClearCells x = some b → ∃ k, spec_ClearCells_ (fun _ => g_spec_l04At) (fun _ => g_spec_l04Copy) k x = some b := evG_e _
/- spec_CpuOk -/
def con_spec_CpuOk (f : Nat → (Int × List Int) → Option (Bool)) : Con := ⟨[.agg [.int .i64, .sl (.int .i64)]], 1, [.v false [.bool]], f⟩
def spec_CpuOk_L2 (spec_l01In : Nat → Int × Int × Int → Option (Bool)) : Nat → Int × List Int × Int × Unit → Option (Bool)
  | 0, _ => none
  | k + 1, (b0, b1, b2, ()) =>
    if b0 < ((List.length b1 : Nat) : Int) then
     if 0 ≤ b0 then
      if b0 < ((List.length b1 : Nat) : Int) then (spec_l01In k ((List.getD b1 (Int.toNat b0) 0), (0, 65535))).bind fun v0 =>
       if v0 = true then
        spec_CpuOk_L2 spec_l01In k ((wrap64 (b0 + 1)), b1, b2, ())
       else
        some false else none
     else
      none
    else
     (spec_l01In k (b2, (0, 60))).bind fun v1 =>
     if v1 = true then
      some (decide (((List.length b1 : Nat) : Int) ≤ 8))
     else
      some false
def spec_CpuOk_ (spec_l01In : Nat → Int × Int × Int → Option (Bool)) (k : Nat) : (Int × List Int) → Option (Bool)
  | (a0, a1) =>
  spec_CpuOk_L2 spec_l01In k (0, a1, a0, ())
noncomputable def g_spec_CpuOk : (Int × List Int) → Option (Bool) := evG (spec_CpuOk_ (fun _ => g_spec_l01In))
theorem e_spec_CpuOk : ∀ x b, g_spec_CpuOk x = some b → ∃ k, spec_CpuOk_ (fun _ => g_spec_l01In) k x = some b := evG_e _
/- spec_Answer -/
def con_spec_Answer (f : Nat → (Int × List Int) × Int → Option ((Int × List Int) × Bool)) : Con := ⟨[.agg [.int .i64, .sl (.int .i64)], .c (.int .i64)], 2, [.v true [.int .i64, .own (.int .i64) 3], .v false [.bool]], f⟩
def spec_Answer_ (spec_CpuOk : Nat → (Int × List Int) → Option (Bool)) (spec_l04Mod : Nat → Int → Option (Int)) (spec_l06Copy : Nat → (Int × List Int) → Option ((Int × List Int))) (k : Nat) : (Int × List Int) × Int → Option ((Int × List Int) × Bool)
  | ((a0, a1), a2) =>
  (spec_l06Copy k (a0, a1)).bind fun v0 =>
  (spec_CpuOk k (a0, a1)).bind fun v1 =>
  if v1 = true then
   if ((List.length a1 : Nat) : Int) = 8 then
    some (v0, false)
   else
    (spec_l04Mod k a2).bind fun v2 =>
    if (((List.length v0.2 + List.length [v2] : Nat) : Int) * ((8 : Nat) : Int)) ≤ 140737488355328 then some ((v0.1, (v0.2 ++ [v2])), true) else none
  else
   some (v0, false)
noncomputable def g_spec_Answer : (Int × List Int) × Int → Option ((Int × List Int) × Bool) := spec_Answer_ (fun _ => g_spec_CpuOk) (fun _ => g_spec_l04Mod) (fun _ => g_spec_l06Copy) 0
theorem e_spec_Answer : ∀ x b, g_spec_Answer x = some b → ∃ k, spec_Answer_ (fun _ => g_spec_CpuOk) (fun _ => g_spec_l04Mod) (fun _ => g_spec_l06Copy) k x = some b := fun x b h => ⟨0, h⟩
/- spec_CodeOk -/
def con_spec_CodeOk (f : Nat → ((List (Int × Int))) → Option (Bool)) : Con := ⟨[.c (.sl (.pair (.int .i64) (.int .i64)))], 1, [.v false [.bool]], f⟩
def spec_CodeOk_L2 (spec_l01In : Nat → Int × Int × Int → Option (Bool)) : Nat → Int × (List (Int × Int)) × Unit → Option (Bool)
  | 0, _ => none
  | k + 1, (b0, b1, ()) =>
    if b0 < ((List.length b1 : Nat) : Int) then
     if 0 ≤ b0 then
      if b0 < ((List.length b1 : Nat) : Int) then (spec_l01In k ((List.getD b1 (Int.toNat b0) (0, 0)).1, (0, 255))).bind fun v0 =>
       if v0 = true then
        if 0 ≤ b0 then
         if b0 < ((List.length b1 : Nat) : Int) then (spec_l01In k ((List.getD b1 (Int.toNat b0) (0, 0)).2, (0, 255))).bind fun v1 =>
          if v1 = true then
           spec_CodeOk_L2 spec_l01In k ((wrap64 (b0 + 1)), b1, ())
          else
           some false else none
        else
         none
       else
        some false else none
     else
      none
    else
     some (decide (((List.length b1 : Nat) : Int) ≤ 60))
def spec_CodeOk_ (spec_l01In : Nat → Int × Int × Int → Option (Bool)) (k : Nat) : ((List (Int × Int))) → Option (Bool)
  | a0 =>
  spec_CodeOk_L2 spec_l01In k (0, a0, ())
noncomputable def g_spec_CodeOk : ((List (Int × Int))) → Option (Bool) := evG (spec_CodeOk_ (fun _ => g_spec_l01In))
theorem e_spec_CodeOk : ∀ x b, g_spec_CodeOk x = some b → ∃ k, spec_CodeOk_ (fun _ => g_spec_l01In) k x = some b := evG_e _
/- spec_l06Needs -/
def con_spec_l06Needs (f : Nat → Int → Option (Int × Int)) : Con := ⟨[.c (.int .i64)], 2, [.v false [.int .i64], .v false [.int .i64]], f⟩
def spec_l06Needs_ (k : Nat) : Int → Option (Int × Int)
  | a0 =>
  if 0 ≤ a0 then
   if a0 < ((List.length [0, 0, 1, 2, 2, 2, 2, 2, 2, 0, 1, 1, 1, 1, 0, 0, 1, 0] : Nat) : Int) then
    if 0 ≤ a0 then
     if a0 < ((List.length [0, 1, 1, 0, 1, 1, 1, 1, 1, 0, 0, 2, 0, 0, 0, 0, 0, 1] : Nat) : Int) then some ((List.getD [0, 0, 1, 2, 2, 2, 2, 2, 2, 0, 1, 1, 1, 1, 0, 0, 1, 0] (Int.toNat a0) 0), (List.getD [0, 1, 1, 0, 1, 1, 1, 1, 1, 0, 0, 2, 0, 0, 0, 0, 0, 1] (Int.toNat a0) 0)) else none
    else
     none
   else
    none
  else
   none
noncomputable def g_spec_l06Needs : Int → Option (Int × Int) := spec_l06Needs_  0
theorem e_spec_l06Needs : ∀ x b, g_spec_l06Needs x = some b → ∃ k, spec_l06Needs_  k x = some b := fun x b h => ⟨0, h⟩
/- spec_l06Sum -/
def con_spec_l06Sum (f : Nat → Int × Int × Int → Option (Int × Bool)) : Con := ⟨[.c (.int .i64), .c (.int .i64), .c (.int .i64)], 2, [.v false [.int .i64], .v false [.bool]], f⟩
def spec_l06Sum_ (spec_l04Mod : Nat → Int → Option (Int)) (k : Nat) : Int × Int × Int → Option (Int × Bool)
  | (a0, a1, a2) =>
  if a0 = 4 then
   (spec_l04Mod k (wrap64 (a1 + a2))).bind fun v0 =>
   some (v0, true)
  else
   if a0 = 5 then
    (spec_l04Mod k (wrap64 (a1 - a2))).bind fun v1 =>
    some (v1, true)
   else
    if a0 = 6 then
     (spec_l04Mod k (wrap64 (a1 * a2))).bind fun v2 =>
     some (v2, true)
    else
     if a0 = 7 then
      if a2 = 0 then
       some (0, false)
      else
       if a2 = 0 then
        none
       else
        some ((wrap64 (Int.tdiv a1 a2)), true)
     else
      if a1 < a2 then
       some (1, true)
      else
       some (0, true)
noncomputable def g_spec_l06Sum : Int × Int × Int → Option (Int × Bool) := spec_l06Sum_ (fun _ => g_spec_l04Mod) 0
theorem e_spec_l06Sum : ∀ x b, g_spec_l06Sum x = some b → ∃ k, spec_l06Sum_ (fun _ => g_spec_l04Mod) k x = some b := fun x b h => ⟨0, h⟩
end Go.Sx.T
