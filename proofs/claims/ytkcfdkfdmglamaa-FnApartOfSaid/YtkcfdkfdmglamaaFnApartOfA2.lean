/- Functions of the program as functions of Lean, and that the program keeps to them. -/
import Derived.Test.YtkcfdkfdmglamaaFnApartOfA1
set_option maxRecDepth 100000
set_option linter.unusedVariables false
set_option linter.unusedSimpArgs false
namespace Go.Proofs
end Go.Proofs
namespace Go.Sx.T
open Go Go.Sx Go.Proofs Go.RowKit
/- spec_l12Step -/
def con_spec_l12Step (f : Nat → ((List (Int × Int)) × (List (Int × Int)) × (List (Int × (Int × (Int × (Int × Int))))) × (List (Int × (Int × Int))) × List ByteArray × List Int × (List (Int × ((Int × (List Int)) × (Int × (Int × Int))))) × (List (List (Int × Int))) × List Int × Int × Bool × (List (Int × (Int × (Int × (Int × Int)))))) × Int × ((List (Int × Int))) × List Int → Option (Bool × Int × Int × (Unit × Unit × Unit × Unit × Unit × List Int × (List (Int × ((Int × (List Int)) × (Int × (Int × Int))))) × (List (List (Int × Int))) × List Int × Int × Bool × Unit))) : Con := ⟨[.pw [.c (.sl (.pair (.int .i64) (.int .i64))), .c (.sl (.pair (.int .i64) (.int .i64))), .c (.sl (.pair (.int .i64) (.pair (.int .i64) (.pair (.int .i64) (.pair (.int .i64) (.int .i64)))))), .c (.sl (.pair (.int .i64) (.pair (.int .i64) (.int .i64)))), .c (.sl .str), .row (.int .i64) 3, .nrow (.pair (.f (.int .i64)) (.pair (.pair (.f (.int .i64)) (.sl (.int .i64))) (.pair (.f (.int .i64)) (.pair (.f (.int .i64)) (.f (.int .i64)))))) 147, .nrow (.sl (.pair (.int .i64) (.int .i64))) 227, .row (.int .i64) 3, .c (.int .i64), .c (.bool), .c (.sl (.pair (.int .i64) (.pair (.int .i64) (.pair (.int .i64) (.pair (.int .i64) (.int .i64))))))] 90, .c (.int .i64), .c (.sl (.pair (.int .i64) (.int .i64))), .c (.sl (.int .i64))], 3, [.v false [.bool], .v false [.int .i64], .v false [.int .i64], .box [.keep, .keep, .keep, .keep, .keep, .own (.int .i64) 3, .nown (.pair (.f (.int .i64)) (.pair (.pair (.f (.int .i64)) (.sl (.int .i64))) (.pair (.f (.int .i64)) (.pair (.f (.int .i64)) (.f (.int .i64)))))) 147, .nown (.sl (.pair (.int .i64) (.int .i64))) 227, .own (.int .i64) 3, .int .i64, .bool, .keep] 90], f⟩
def spec_l12Step_L16 (spec_Answer : Nat → (Int × List Int) × Int → Option ((Int × List Int) × Bool)) (spec_StepCpu : Nat → (Int × List Int) × ((List (Int × Int))) × List Int × (Int × Int) × Int → Option ((Int × List Int) × List Int × (Int × Int × Int × Int))) (spec_l07Answers : Nat → Int → Option (Int)) (spec_l12Effect : Nat → ((List (Int × Int)) × (List (Int × Int)) × (List (Int × (Int × (Int × (Int × Int))))) × (List (Int × (Int × Int))) × List ByteArray × List Int × (List (Int × ((Int × (List Int)) × (Int × (Int × Int))))) × (List (List (Int × Int))) × List Int × Int × Bool × (List (Int × (Int × (Int × (Int × Int)))))) × Int × (Int × Int × Int × Int) × List Int → Option (List Int × Int × (Unit × Unit × Unit × Unit × Unit × List Int × (List (Int × ((Int × (List Int)) × (Int × (Int × Int))))) × (List (List (Int × Int))) × List Int × Int × Bool × Unit))) : Nat → Int × Int × Int × Bool × (List (Int × Int)) × (List (Int × Int)) × (List (Int × (Int × (Int × (Int × Int))))) × (List (Int × (Int × Int))) × List ByteArray × (List (Int × (Int × (Int × (Int × Int))))) × Int × List Int × List Int × (List (Int × ((Int × (List Int)) × (Int × (Int × Int))))) × (List (List (Int × Int))) × List Int × List Int × List Int × Unit → Option (Bool × Int × Int × (Unit × Unit × Unit × Unit × Unit × List Int × (List (Int × ((Int × (List Int)) × (Int × (Int × Int))))) × (List (List (Int × Int))) × List Int × Int × Bool × Unit))
  | 0, _ => none
  | k + 1, (b0, b1, b2, b3, b4, b5, b6, b7, b8, b9, b10, b11, b12, b13, b14, b15, b16, b17, ()) =>
    if b1 < ((List.length b11 : Nat) : Int) then
     if 0 ≤ b1 then
      if b1 < ((List.length b11 : Nat) : Int) then (spec_Answer k ((b10, b16), (List.getD b11 (Int.toNat b1) 0))).bind fun v0 =>
       spec_l12Step_L16 spec_Answer spec_StepCpu spec_l07Answers spec_l12Effect k (b0, (wrap64 (b1 + 1)), b2, b3, b4, b5, b6, b7, b8, b9, v0.1.1, b11, b12, b13, b14, b15, v0.1.2, b17, ()) else none
     else
      none
    else
     if 0 ≤ (wrap64 (b0 - 1)) then
      if (wrap64 (b0 - 1)) < ((List.length b13 : Nat) : Int) then some (false, (0, (0, ((), ((), ((), ((), ((), (b17, ((List.set b13 (Int.toNat (wrap64 (b0 - 1))) ((List.getD b13 (Int.toNat (wrap64 (b0 - 1))) (0, ((0, ([] : List Int)), (0, (0, 0))))).1, ((b10, b16), (List.getD b13 (Int.toNat (wrap64 (b0 - 1))) (0, ((0, ([] : List Int)), (0, (0, 0))))).2.2))), (b14, (b15, (b2, (b3, ())))))))))))))) else none
     else
      none
def spec_l12Step_ (spec_Answer : Nat → (Int × List Int) × Int → Option ((Int × List Int) × Bool)) (spec_StepCpu : Nat → (Int × List Int) × ((List (Int × Int))) × List Int × (Int × Int) × Int → Option ((Int × List Int) × List Int × (Int × Int × Int × Int))) (spec_l07Answers : Nat → Int → Option (Int)) (spec_l12Effect : Nat → ((List (Int × Int)) × (List (Int × Int)) × (List (Int × (Int × (Int × (Int × Int))))) × (List (Int × (Int × Int))) × List ByteArray × List Int × (List (Int × ((Int × (List Int)) × (Int × (Int × Int))))) × (List (List (Int × Int))) × List Int × Int × Bool × (List (Int × (Int × (Int × (Int × Int)))))) × Int × (Int × Int × Int × Int) × List Int → Option (List Int × Int × (Unit × Unit × Unit × Unit × Unit × List Int × (List (Int × ((Int × (List Int)) × (Int × (Int × Int))))) × (List (List (Int × Int))) × List Int × Int × Bool × Unit))) (k : Nat) : ((List (Int × Int)) × (List (Int × Int)) × (List (Int × (Int × (Int × (Int × Int))))) × (List (Int × (Int × Int))) × List ByteArray × List Int × (List (Int × ((Int × (List Int)) × (Int × (Int × Int))))) × (List (List (Int × Int))) × List Int × Int × Bool × (List (Int × (Int × (Int × (Int × Int)))))) × Int × ((List (Int × Int))) × List Int → Option (Bool × Int × Int × (Unit × Unit × Unit × Unit × Unit × List Int × (List (Int × ((Int × (List Int)) × (Int × (Int × Int))))) × (List (List (Int × Int))) × List Int × Int × Bool × Unit))
  | ((a0, a1, a2, a3, a4, a5, a6, a7, a8, a9, a10, a11), a12, a13, a14) =>
  if 0 ≤ (wrap64 (a12 - 1)) then
   if (wrap64 (a12 - 1)) < ((List.length a6 : Nat) : Int) then
    if 0 ≤ (wrap64 (a12 - 1)) then
     if (wrap64 (a12 - 1)) < ((List.length a0 : Nat) : Int) then (spec_StepCpu k ((List.getD a6 (Int.toNat (wrap64 (a12 - 1))) (0, ((0, ([] : List Int)), (0, (0, 0))))).2.1, (a13, (a5, ((List.getD a0 (Int.toNat (wrap64 (a12 - 1))) (0, 0)), a9))))).bind fun v0 =>
      if v0.2.2.2.2.2 = 0 then
       if 0 ≤ (List.getD a6 (Int.toNat (wrap64 (a12 - 1))) (0, ((0, ([] : List Int)), (0, (0, 0))))).2.1.1 then
        if (List.getD a6 (Int.toNat (wrap64 (a12 - 1))) (0, ((0, ([] : List Int)), (0, (0, 0))))).2.1.1 < ((List.length a13 : Nat) : Int) then
         if (List.getD a13 (Int.toNat (List.getD a6 (Int.toNat (wrap64 (a12 - 1))) (0, ((0, ([] : List Int)), (0, (0, 0))))).2.1.1) (0, 0)).1 = 0 then
          if 0 ≤ (wrap64 (a12 - 1)) then
           if (wrap64 (a12 - 1)) < ((List.length a6 : Nat) : Int) then
            if 0 ≤ (wrap64 (a12 - 1)) then
             if (wrap64 (a12 - 1)) < ((List.length (List.set a6 (Int.toNat (wrap64 (a12 - 1))) ((List.getD a6 (Int.toNat (wrap64 (a12 - 1))) (0, ((0, ([] : List Int)), (0, (0, 0))))).1, ((0, ([] : List Int)), (List.getD a6 (Int.toNat (wrap64 (a12 - 1))) (0, ((0, ([] : List Int)), (0, (0, 0))))).2.2))) : Nat) : Int) then
              if 0 ≤ (wrap64 (a12 - 1)) then
               if (wrap64 (a12 - 1)) < ((List.length (List.set a6 (Int.toNat (wrap64 (a12 - 1))) ((List.getD a6 (Int.toNat (wrap64 (a12 - 1))) (0, ((0, ([] : List Int)), (0, (0, 0))))).1, ((0, ([] : List Int)), (List.getD a6 (Int.toNat (wrap64 (a12 - 1))) (0, ((0, ([] : List Int)), (0, (0, 0))))).2.2))) : Nat) : Int) then some (true, (0, (0, ((), ((), ((), ((), ((), (a5, ((List.set (List.set a6 (Int.toNat (wrap64 (a12 - 1))) ((List.getD a6 (Int.toNat (wrap64 (a12 - 1))) (0, ((0, ([] : List Int)), (0, (0, 0))))).1, ((0, ([] : List Int)), (List.getD a6 (Int.toNat (wrap64 (a12 - 1))) (0, ((0, ([] : List Int)), (0, (0, 0))))).2.2))) (Int.toNat (wrap64 (a12 - 1))) ((List.getD (List.set a6 (Int.toNat (wrap64 (a12 - 1))) ((List.getD a6 (Int.toNat (wrap64 (a12 - 1))) (0, ((0, ([] : List Int)), (0, (0, 0))))).1, ((0, ([] : List Int)), (List.getD a6 (Int.toNat (wrap64 (a12 - 1))) (0, ((0, ([] : List Int)), (0, (0, 0))))).2.2))) (Int.toNat (wrap64 (a12 - 1))) (0, ((0, ([] : List Int)), (0, (0, 0))))).1, ((List.getD (List.set a6 (Int.toNat (wrap64 (a12 - 1))) ((List.getD a6 (Int.toNat (wrap64 (a12 - 1))) (0, ((0, ([] : List Int)), (0, (0, 0))))).1, ((0, ([] : List Int)), (List.getD a6 (Int.toNat (wrap64 (a12 - 1))) (0, ((0, ([] : List Int)), (0, (0, 0))))).2.2))) (Int.toNat (wrap64 (a12 - 1))) (0, ((0, ([] : List Int)), (0, (0, 0))))).2.1, ((List.getD (List.set a6 (Int.toNat (wrap64 (a12 - 1))) ((List.getD a6 (Int.toNat (wrap64 (a12 - 1))) (0, ((0, ([] : List Int)), (0, (0, 0))))).1, ((0, ([] : List Int)), (List.getD a6 (Int.toNat (wrap64 (a12 - 1))) (0, ((0, ([] : List Int)), (0, (0, 0))))).2.2))) (Int.toNat (wrap64 (a12 - 1))) (0, ((0, ([] : List Int)), (0, (0, 0))))).2.2.1, ((wrap64 ((List.getD (List.set a6 (Int.toNat (wrap64 (a12 - 1))) ((List.getD a6 (Int.toNat (wrap64 (a12 - 1))) (0, ((0, ([] : List Int)), (0, (0, 0))))).1, ((0, ([] : List Int)), (List.getD a6 (Int.toNat (wrap64 (a12 - 1))) (0, ((0, ([] : List Int)), (0, (0, 0))))).2.2))) (Int.toNat (wrap64 (a12 - 1))) (0, ((0, ([] : List Int)), (0, (0, 0))))).2.2.2.1 + 1)), (List.getD (List.set a6 (Int.toNat (wrap64 (a12 - 1))) ((List.getD a6 (Int.toNat (wrap64 (a12 - 1))) (0, ((0, ([] : List Int)), (0, (0, 0))))).1, ((0, ([] : List Int)), (List.getD a6 (Int.toNat (wrap64 (a12 - 1))) (0, ((0, ([] : List Int)), (0, (0, 0))))).2.2))) (Int.toNat (wrap64 (a12 - 1))) (0, ((0, ([] : List Int)), (0, (0, 0))))).2.2.2.2))))), (a7, (a8, (a9, (a10, ())))))))))))))) else none
              else
               none
             else
              none
            else
             none
           else
            none
          else
           none
         else
          (spec_l07Answers k v0.2.2.1).bind fun v1 =>
          if 8 < (wrap64 (((List.length v0.1.2 : Nat) : Int) + v1)) then
           if 0 < v1 then
            some (true, (1, (4, ((), ((), ((), ((), ((), (a5, (a6, (a7, (a8, (a9, (a10, ()))))))))))))))
           else
            (spec_l12Effect k ((a0, (a1, (a2, (a3, (a4, (a5, (a6, (a7, (a8, (a9, (a10, a11))))))))))), (a12, (v0.2.2, a14)))).bind fun v2 =>
            if v2.2.1 = 0 then
             spec_l12Step_L16 spec_Answer spec_StepCpu spec_l07Answers spec_l12Effect k (a12, 0, v2.2.2.2.2.2.2.2.2.2.2.2.1, v2.2.2.2.2.2.2.2.2.2.2.2.2.1, a0, a1, a2, a3, a4, a11, v0.1.1, v2.1, v2.2.2.2.2.2.2.2.1, v2.2.2.2.2.2.2.2.2.1, v2.2.2.2.2.2.2.2.2.2.1, v2.2.2.2.2.2.2.2.2.2.2.1, v0.1.2, v0.2.1, ())
            else
             some (true, (1, (v2.2.1, ((), ((), ((), ((), ((), (v2.2.2.2.2.2.2.2.1, (v2.2.2.2.2.2.2.2.2.1, (v2.2.2.2.2.2.2.2.2.2.1, (v2.2.2.2.2.2.2.2.2.2.2.1, (v2.2.2.2.2.2.2.2.2.2.2.2.1, (v2.2.2.2.2.2.2.2.2.2.2.2.2.1, ()))))))))))))))
          else
           (spec_l12Effect k ((a0, (a1, (a2, (a3, (a4, (a5, (a6, (a7, (a8, (a9, (a10, a11))))))))))), (a12, (v0.2.2, a14)))).bind fun v3 =>
           if v3.2.1 = 0 then
            spec_l12Step_L16 spec_Answer spec_StepCpu spec_l07Answers spec_l12Effect k (a12, 0, v3.2.2.2.2.2.2.2.2.2.2.2.1, v3.2.2.2.2.2.2.2.2.2.2.2.2.1, a0, a1, a2, a3, a4, a11, v0.1.1, v3.1, v3.2.2.2.2.2.2.2.1, v3.2.2.2.2.2.2.2.2.1, v3.2.2.2.2.2.2.2.2.2.1, v3.2.2.2.2.2.2.2.2.2.2.1, v0.1.2, v0.2.1, ())
           else
            some (true, (1, (v3.2.1, ((), ((), ((), ((), ((), (v3.2.2.2.2.2.2.2.1, (v3.2.2.2.2.2.2.2.2.1, (v3.2.2.2.2.2.2.2.2.2.1, (v3.2.2.2.2.2.2.2.2.2.2.1, (v3.2.2.2.2.2.2.2.2.2.2.2.1, (v3.2.2.2.2.2.2.2.2.2.2.2.2.1, ()))))))))))))))
        else
         none
       else
        none
      else
       some (true, (1, (v0.2.2.2.2.2, ((), ((), ((), ((), ((), (a5, (a6, (a7, (a8, (a9, (a10, ())))))))))))))) else none
    else
     none
   else
    none
  else
   none
noncomputable def g_spec_l12Step : ((List (Int × Int)) × (List (Int × Int)) × (List (Int × (Int × (Int × (Int × Int))))) × (List (Int × (Int × Int))) × List ByteArray × List Int × (List (Int × ((Int × (List Int)) × (Int × (Int × Int))))) × (List (List (Int × Int))) × List Int × Int × Bool × (List (Int × (Int × (Int × (Int × Int)))))) × Int × ((List (Int × Int))) × List Int → Option (Bool × Int × Int × (Unit × Unit × Unit × Unit × Unit × List Int × (List (Int × ((Int × (List Int)) × (Int × (Int × Int))))) × (List (List (Int × Int))) × List Int × Int × Bool × Unit)) := evG (spec_l12Step_ (fun _ => g_spec_Answer) (fun _ => g_spec_StepCpu) (fun _ => g_spec_l07Answers) (fun _ => g_spec_l12Effect))
theorem e_spec_l12Step : ∀ x b, g_spec_l12Step x = some b → ∃ k, spec_l12Step_ (fun _ => g_spec_Answer) (fun _ => g_spec_StepCpu) (fun _ => g_spec_l07Answers) (fun _ => g_spec_l12Effect) k x = some b := evG_e _
/- spec_l12Act -/
def con_spec_l12Act (f : Nat → ((List (Int × Int)) × (List (Int × Int)) × (List (Int × (Int × (Int × (Int × Int))))) × (List (Int × (Int × Int))) × List ByteArray × List Int × (List (Int × ((Int × (List Int)) × (Int × (Int × Int))))) × (List (List (Int × Int))) × List Int × Int × Bool × (List (Int × (Int × (Int × (Int × Int)))))) × Int × Int → Option ((Unit × Unit × Unit × Unit × Unit × List Int × (List (Int × ((Int × (List Int)) × (Int × (Int × Int))))) × (List (List (Int × Int))) × List Int × Int × Bool × Unit))) : Con := ⟨[.pw [.c (.sl (.pair (.int .i64) (.int .i64))), .c (.sl (.pair (.int .i64) (.int .i64))), .c (.sl (.pair (.int .i64) (.pair (.int .i64) (.pair (.int .i64) (.pair (.int .i64) (.int .i64)))))), .c (.sl (.pair (.int .i64) (.pair (.int .i64) (.int .i64)))), .c (.sl .str), .row (.int .i64) 3, .nrow (.pair (.f (.int .i64)) (.pair (.pair (.f (.int .i64)) (.sl (.int .i64))) (.pair (.f (.int .i64)) (.pair (.f (.int .i64)) (.f (.int .i64)))))) 147, .nrow (.sl (.pair (.int .i64) (.int .i64))) 227, .row (.int .i64) 3, .c (.int .i64), .c (.bool), .c (.sl (.pair (.int .i64) (.pair (.int .i64) (.pair (.int .i64) (.pair (.int .i64) (.int .i64))))))] 90, .c (.int .i64), .c (.int .i64)], 0, [.box [.keep, .keep, .keep, .keep, .keep, .own (.int .i64) 3, .nown (.pair (.f (.int .i64)) (.pair (.pair (.f (.int .i64)) (.sl (.int .i64))) (.pair (.f (.int .i64)) (.pair (.f (.int .i64)) (.f (.int .i64)))))) 147, .nown (.sl (.pair (.int .i64) (.int .i64))) 227, .own (.int .i64) 3, .int .i64, .bool, .keep] 90], f⟩
def spec_l12Act_ (spec_ClearCells : Nat → List Int × (Int × Int) → Option (List Int)) (k : Nat) : ((List (Int × Int)) × (List (Int × Int)) × (List (Int × (Int × (Int × (Int × Int))))) × (List (Int × (Int × Int))) × List ByteArray × List Int × (List (Int × ((Int × (List Int)) × (Int × (Int × Int))))) × (List (List (Int × Int))) × List Int × Int × Bool × (List (Int × (Int × (Int × (Int × Int)))))) × Int × Int → Option ((Unit × Unit × Unit × Unit × Unit × List Int × (List (Int × ((Int × (List Int)) × (Int × (Int × Int))))) × (List (List (Int × Int))) × List Int × Int × Bool × Unit))
  | ((a0, a1, a2, a3, a4, a5, a6, a7, a8, a9, a10, a11), a12, a13) =>
  if 0 ≤ (wrap64 (a12 - 1)) then
   if (wrap64 (a12 - 1)) < ((List.length a6 : Nat) : Int) then
    if a13 = 1 then
     if a13 = 1 then
      if a13 = 2 then
       if 0 ≤ (wrap64 (a12 - 1)) then
        if (wrap64 (a12 - 1)) < ((List.length a0 : Nat) : Int) then (spec_ClearCells k (a5, (List.getD a0 (Int.toNat (wrap64 (a12 - 1))) (0, 0)))).bind fun v0 =>
         if 0 ≤ (wrap64 (a12 - 1)) then
          if (wrap64 (a12 - 1)) < ((List.length a6 : Nat) : Int) then some ((), ((), ((), ((), ((), (v0, ((List.set a6 (Int.toNat (wrap64 (a12 - 1))) ((List.getD a6 (Int.toNat (wrap64 (a12 - 1))) (0, ((0, ([] : List Int)), (0, (0, 0))))).1, ((0, ([] : List Int)), ((wrap64 ((List.getD a6 (Int.toNat (wrap64 (a12 - 1))) (0, ((0, ([] : List Int)), (0, (0, 0))))).2.2.1 + 1)), (List.getD a6 (Int.toNat (wrap64 (a12 - 1))) (0, ((0, ([] : List Int)), (0, (0, 0))))).2.2.2)))), (a7, (a8, (a9, (a10, ()))))))))))) else none
         else
          none else none
       else
        none
      else
       if 0 ≤ (wrap64 (a12 - 1)) then
        if (wrap64 (a12 - 1)) < ((List.length a6 : Nat) : Int) then some ((), ((), ((), ((), ((), (a5, ((List.set a6 (Int.toNat (wrap64 (a12 - 1))) ((List.getD a6 (Int.toNat (wrap64 (a12 - 1))) (0, ((0, ([] : List Int)), (0, (0, 0))))).1, ((0, ([] : List Int)), ((wrap64 ((List.getD a6 (Int.toNat (wrap64 (a12 - 1))) (0, ((0, ([] : List Int)), (0, (0, 0))))).2.2.1 + 1)), (List.getD a6 (Int.toNat (wrap64 (a12 - 1))) (0, ((0, ([] : List Int)), (0, (0, 0))))).2.2.2)))), (a7, (a8, (a9, (a10, ()))))))))))) else none
       else
        none
     else
      if a13 = 3 then
       if 0 ≤ (wrap64 ((wrap64 (2 * a12)) - 2)) then
        if (wrap64 ((wrap64 (2 * a12)) - 2)) < ((List.length a8 : Nat) : Int) then
         if 0 ≤ (wrap64 ((wrap64 (2 * a12)) - 1)) then
          if (wrap64 ((wrap64 (2 * a12)) - 1)) < ((List.length (List.set a8 (Int.toNat (wrap64 ((wrap64 (2 * a12)) - 2))) 0) : Nat) : Int) then
           if 0 ≤ (wrap64 (a12 - 1)) then
            if (wrap64 (a12 - 1)) < ((List.length a6 : Nat) : Int) then some ((), ((), ((), ((), ((), (a5, ((List.set a6 (Int.toNat (wrap64 (a12 - 1))) (1, (List.getD a6 (Int.toNat (wrap64 (a12 - 1))) (0, ((0, ([] : List Int)), (0, (0, 0))))).2)), (a7, ((List.set (List.set a8 (Int.toNat (wrap64 ((wrap64 (2 * a12)) - 2))) 0) (Int.toNat (wrap64 ((wrap64 (2 * a12)) - 1))) 0), (a9, (a10, ()))))))))))) else none
           else
            none
          else
           none
         else
          none
        else
         none
       else
        none
      else
       if a13 = 4 then
        if 8 = 8 then
         if 0 ≤ 8 then
          if (8 * ((8 : Nat) : Int)) ≤ 140737488355328 then
           if 0 ≤ (wrap64 (a12 - 1)) then
            if (wrap64 (a12 - 1)) < ((List.length a6 : Nat) : Int) then some ((), ((), ((), ((), ((), (a5, ((List.set a6 (Int.toNat (wrap64 (a12 - 1))) (List.getD a6 (Int.toNat (wrap64 (a12 - 1))) (0, ((0, ([] : List Int)), (0, (0, 0)))))), (a7, ((List.replicate (Int.toNat 8) 0), (a9, (true, ()))))))))))) else none
           else
            none
          else
           none
         else
          none
        else
         none
       else
        if 0 ≤ (wrap64 (a12 - 1)) then
         if (wrap64 (a12 - 1)) < ((List.length a6 : Nat) : Int) then some ((), ((), ((), ((), ((), (a5, ((List.set a6 (Int.toNat (wrap64 (a12 - 1))) (List.getD a6 (Int.toNat (wrap64 (a12 - 1))) (0, ((0, ([] : List Int)), (0, (0, 0)))))), (a7, (a8, (a9, (a10, ()))))))))))) else none
        else
         none
    else
     if a13 = 2 then
      if a13 = 2 then
       if 0 ≤ (wrap64 (a12 - 1)) then
        if (wrap64 (a12 - 1)) < ((List.length a0 : Nat) : Int) then (spec_ClearCells k (a5, (List.getD a0 (Int.toNat (wrap64 (a12 - 1))) (0, 0)))).bind fun v1 =>
         if 0 ≤ (wrap64 (a12 - 1)) then
          if (wrap64 (a12 - 1)) < ((List.length a6 : Nat) : Int) then some ((), ((), ((), ((), ((), (v1, ((List.set a6 (Int.toNat (wrap64 (a12 - 1))) ((List.getD a6 (Int.toNat (wrap64 (a12 - 1))) (0, ((0, ([] : List Int)), (0, (0, 0))))).1, ((0, ([] : List Int)), ((wrap64 ((List.getD a6 (Int.toNat (wrap64 (a12 - 1))) (0, ((0, ([] : List Int)), (0, (0, 0))))).2.2.1 + 1)), (List.getD a6 (Int.toNat (wrap64 (a12 - 1))) (0, ((0, ([] : List Int)), (0, (0, 0))))).2.2.2)))), (a7, (a8, (a9, (a10, ()))))))))))) else none
         else
          none else none
       else
        none
      else
       if 0 ≤ (wrap64 (a12 - 1)) then
        if (wrap64 (a12 - 1)) < ((List.length a6 : Nat) : Int) then some ((), ((), ((), ((), ((), (a5, ((List.set a6 (Int.toNat (wrap64 (a12 - 1))) ((List.getD a6 (Int.toNat (wrap64 (a12 - 1))) (0, ((0, ([] : List Int)), (0, (0, 0))))).1, ((0, ([] : List Int)), ((wrap64 ((List.getD a6 (Int.toNat (wrap64 (a12 - 1))) (0, ((0, ([] : List Int)), (0, (0, 0))))).2.2.1 + 1)), (List.getD a6 (Int.toNat (wrap64 (a12 - 1))) (0, ((0, ([] : List Int)), (0, (0, 0))))).2.2.2)))), (a7, (a8, (a9, (a10, ()))))))))))) else none
       else
        none
     else
      if a13 = 3 then
       if 0 ≤ (wrap64 ((wrap64 (2 * a12)) - 2)) then
        if (wrap64 ((wrap64 (2 * a12)) - 2)) < ((List.length a8 : Nat) : Int) then
         if 0 ≤ (wrap64 ((wrap64 (2 * a12)) - 1)) then
          if (wrap64 ((wrap64 (2 * a12)) - 1)) < ((List.length (List.set a8 (Int.toNat (wrap64 ((wrap64 (2 * a12)) - 2))) 0) : Nat) : Int) then
           if 0 ≤ (wrap64 (a12 - 1)) then
            if (wrap64 (a12 - 1)) < ((List.length a6 : Nat) : Int) then some ((), ((), ((), ((), ((), (a5, ((List.set a6 (Int.toNat (wrap64 (a12 - 1))) (1, (List.getD a6 (Int.toNat (wrap64 (a12 - 1))) (0, ((0, ([] : List Int)), (0, (0, 0))))).2)), (a7, ((List.set (List.set a8 (Int.toNat (wrap64 ((wrap64 (2 * a12)) - 2))) 0) (Int.toNat (wrap64 ((wrap64 (2 * a12)) - 1))) 0), (a9, (a10, ()))))))))))) else none
           else
            none
          else
           none
         else
          none
        else
         none
       else
        none
      else
       if a13 = 4 then
        if 8 = 8 then
         if 0 ≤ 8 then
          if (8 * ((8 : Nat) : Int)) ≤ 140737488355328 then
           if 0 ≤ (wrap64 (a12 - 1)) then
            if (wrap64 (a12 - 1)) < ((List.length a6 : Nat) : Int) then some ((), ((), ((), ((), ((), (a5, ((List.set a6 (Int.toNat (wrap64 (a12 - 1))) (List.getD a6 (Int.toNat (wrap64 (a12 - 1))) (0, ((0, ([] : List Int)), (0, (0, 0)))))), (a7, ((List.replicate (Int.toNat 8) 0), (a9, (true, ()))))))))))) else none
           else
            none
          else
           none
         else
          none
        else
         none
       else
        if 0 ≤ (wrap64 (a12 - 1)) then
         if (wrap64 (a12 - 1)) < ((List.length a6 : Nat) : Int) then some ((), ((), ((), ((), ((), (a5, ((List.set a6 (Int.toNat (wrap64 (a12 - 1))) (List.getD a6 (Int.toNat (wrap64 (a12 - 1))) (0, ((0, ([] : List Int)), (0, (0, 0)))))), (a7, (a8, (a9, (a10, ()))))))))))) else none
        else
         none
   else
    none
  else
   none
noncomputable def g_spec_l12Act : ((List (Int × Int)) × (List (Int × Int)) × (List (Int × (Int × (Int × (Int × Int))))) × (List (Int × (Int × Int))) × List ByteArray × List Int × (List (Int × ((Int × (List Int)) × (Int × (Int × Int))))) × (List (List (Int × Int))) × List Int × Int × Bool × (List (Int × (Int × (Int × (Int × Int)))))) × Int × Int → Option ((Unit × Unit × Unit × Unit × Unit × List Int × (List (Int × ((Int × (List Int)) × (Int × (Int × Int))))) × (List (List (Int × Int))) × List Int × Int × Bool × Unit)) := spec_l12Act_ (fun _ => g_spec_ClearCells) 0
theorem e_spec_l12Act : ∀ x b, g_spec_l12Act x = some b → ∃ k, spec_l12Act_ (fun _ => g_spec_ClearCells) k x = some b := fun x b h => ⟨0, h⟩
/- spec_ActFor -/
def con_spec_ActFor (f : Nat → ((List (Int × (Int × Int)))) × Int × Int × Int → Option (Int)) : Con := ⟨[.c (.sl (.pair (.int .i64) (.pair (.int .i64) (.int .i64)))), .c (.int .i64), .c (.int .i64), .c (.int .i64)], 1, [.v false [.int .i64]], f⟩
def spec_ActFor_L5 : Nat → Int × Int × Int × Int × Int × (List (Int × (Int × Int))) × Unit → Option (Int)
  | 0, _ => none
  | k + 1, (b0, b1, b2, b3, b4, b5, ()) =>
    if 0 ≤ b4 then
     if 0 ≤ b4 then
      if b4 < ((List.length b5 : Nat) : Int) then
       if (List.getD b5 (Int.toNat b4) (0, (0, 0))).1 = b0 then
        if 0 ≤ b4 then
         if b4 < ((List.length b5 : Nat) : Int) then
          if (List.getD b5 (Int.toNat b4) (0, (0, 0))).2.1 = b1 then
           if 0 ≤ b4 then
            if b4 < ((List.length b5 : Nat) : Int) then spec_ActFor_L5 k (b0, b1, b2, (List.getD b5 (Int.toNat b4) (0, (0, 0))).2.2, (wrap64 (b4 - 1)), b5, ()) else none
           else
            none
          else
           spec_ActFor_L5 k (b0, b1, b2, b3, (wrap64 (b4 - 1)), b5, ())
         else
          none
        else
         none
       else
        spec_ActFor_L5 k (b0, b1, b2, b3, (wrap64 (b4 - 1)), b5, ())
      else
       none
     else
      none
    else
     if b3 = 1 then
      if 3 ≤ b2 then
       some 3
      else
       some b3
     else
      if b3 = 2 then
       if 3 ≤ b2 then
        some 3
       else
        some b3
      else
       some b3
def spec_ActFor_ (k : Nat) : ((List (Int × (Int × Int)))) × Int × Int × Int → Option (Int)
  | (a0, a1, a2, a3) =>
  if a2 = 1 then
   spec_ActFor_L5 k (a1, a2, a3, 3, (wrap64 (((List.length a0 : Nat) : Int) - 1)), a0, ())
  else
   spec_ActFor_L5 k (a1, a2, a3, 0, (wrap64 (((List.length a0 : Nat) : Int) - 1)), a0, ())
noncomputable def g_spec_ActFor : ((List (Int × (Int × Int)))) × Int × Int × Int → Option (Int) := evG (spec_ActFor_ )
theorem e_spec_ActFor : ∀ x b, g_spec_ActFor x = some b → ∃ k, spec_ActFor_  k x = some b := evG_e _
/- spec_CostOf -/
def con_spec_CostOf (f : Nat → Int → Option (Int)) : Con := ⟨[.c (.int .i64)], 1, [.v false [.int .i64]], f⟩
def spec_CostOf_ (k : Nat) : Int → Option (Int)
  | a0 =>
  if a0 = 2 then
   if a0 = 2 then
    some 2
   else
    if a0 = 6 then
     if a0 = 6 then
      some 3
     else
      if a0 = 13 then
       if a0 = 13 then
        some 4
       else
        some 1
      else
       if a0 = 14 then
        some 4
       else
        some 1
    else
     if a0 = 7 then
      some 3
     else
      if a0 = 13 then
       if a0 = 13 then
        some 4
       else
        some 1
      else
       if a0 = 14 then
        some 4
       else
        some 1
  else
   if a0 = 3 then
    if a0 = 3 then
     some 2
    else
     if a0 = 6 then
      if a0 = 6 then
       some 3
      else
       if a0 = 13 then
        if a0 = 13 then
         some 4
        else
         some 1
       else
        if a0 = 14 then
         some 4
        else
         some 1
     else
      if a0 = 7 then
       some 3
      else
       if a0 = 13 then
        if a0 = 13 then
         some 4
        else
         some 1
       else
        if a0 = 14 then
         some 4
        else
         some 1
   else
    if a0 = 15 then
     if a0 = 15 then
      some 2
     else
      if a0 = 6 then
       if a0 = 6 then
        some 3
       else
        if a0 = 13 then
         if a0 = 13 then
          some 4
         else
          some 1
        else
         if a0 = 14 then
          some 4
         else
          some 1
      else
       if a0 = 7 then
        some 3
       else
        if a0 = 13 then
         if a0 = 13 then
          some 4
         else
          some 1
        else
         if a0 = 14 then
          some 4
         else
          some 1
    else
     if a0 = 16 then
      some 2
     else
      if a0 = 6 then
       if a0 = 6 then
        some 3
       else
        if a0 = 13 then
         if a0 = 13 then
          some 4
         else
          some 1
        else
         if a0 = 14 then
          some 4
         else
          some 1
      else
       if a0 = 7 then
        some 3
       else
        if a0 = 13 then
         if a0 = 13 then
          some 4
         else
          some 1
        else
         if a0 = 14 then
          some 4
         else
          some 1
noncomputable def g_spec_CostOf : Int → Option (Int) := spec_CostOf_  0
theorem e_spec_CostOf : ∀ x b, g_spec_CostOf x = some b → ∃ k, spec_CostOf_  k x = some b := fun x b h => ⟨0, h⟩
/- spec_ReadCode -/
def con_spec_ReadCode (f : Nat → ByteArray → Option (((List (Int × Int))) × Bool)) : Con := ⟨[.c (.str)], 2, [.v false [.own (.pair (.int .i64) (.int .i64)) 255], .v false [.bool]], f⟩
def spec_ReadCode_L5 : Nat → ByteArray × Int × (List (Int × Int)) × Unit → Option (((List (Int × Int))) × Bool)
  | 0, _ => none
  | k + 1, (b0, b1, b2, ()) =>
    if b1 < ((ByteArray.size b0 : Nat) : Int) then
     if 0 ≤ b1 then
      if b1 < ((ByteArray.size b0 : Nat) : Int) then
       if 0 ≤ (wrap64 (b1 + 1)) then
        if (wrap64 (b1 + 1)) < ((ByteArray.size b0 : Nat) : Int) then
         if (((List.length b2 + List.length [((wrap64 (byt b0 b1)), (wrap64 (byt b0 (wrap64 (b1 + 1)))))] : Nat) : Int) * ((16 : Nat) : Int)) ≤ 140737488355328 then spec_ReadCode_L5 k (b0, (wrap64 (b1 + 2)), (b2 ++ [((wrap64 (byt b0 b1)), (wrap64 (byt b0 (wrap64 (b1 + 1)))))]), ()) else none
        else
         none
       else
        none
      else
       none
     else
      none
    else
     some (b2, true)
def spec_ReadCode_ (k : Nat) : ByteArray → Option (((List (Int × Int))) × Bool)
  | a0 =>
  if 2 = 0 then
   none
  else
   if (Int.tmod ((ByteArray.size a0 : Nat) : Int) 2) = 0 then
    if 120 < ((ByteArray.size a0 : Nat) : Int) then
     some (([] : List (Int × Int)), false)
    else
     spec_ReadCode_L5 k (a0, 0, ([] : List (Int × Int)), ())
   else
    some (([] : List (Int × Int)), false)
noncomputable def g_spec_ReadCode : ByteArray → Option (((List (Int × Int))) × Bool) := evG (spec_ReadCode_ )
theorem e_spec_ReadCode : ∀ x b, g_spec_ReadCode x = some b → ∃ k, spec_ReadCode_  k x = some b := evG_e _
/- spec_l12Words -/
def con_spec_l12Words (f : Nat → List Int → Option (Bool)) : Con := ⟨[.c (.sl (.int .i64))], 1, [.v false [.bool]], f⟩
def spec_l12Words_L2 (spec_l01In : Nat → Int × Int × Int → Option (Bool)) : Nat → Int × List Int × Unit → Option (Bool)
  | 0, _ => none
  | k + 1, (b0, b1, ()) =>
    if b0 < ((List.length b1 : Nat) : Int) then
     if 0 ≤ b0 then
      if b0 < ((List.length b1 : Nat) : Int) then (spec_l01In k ((List.getD b1 (Int.toNat b0) 0), (0, 65535))).bind fun v0 =>
       if v0 = true then
        spec_l12Words_L2 spec_l01In k ((wrap64 (b0 + 1)), b1, ())
       else
        some false else none
     else
      none
    else
     some true
def spec_l12Words_ (spec_l01In : Nat → Int × Int × Int → Option (Bool)) (k : Nat) : List Int → Option (Bool)
  | a0 =>
  spec_l12Words_L2 spec_l01In k (0, a0, ())
noncomputable def g_spec_l12Words : List Int → Option (Bool) := evG (spec_l12Words_ (fun _ => g_spec_l01In))
theorem e_spec_l12Words : ∀ x b, g_spec_l12Words x = some b → ∃ k, spec_l12Words_ (fun _ => g_spec_l01In) k x = some b := evG_e _
/- spec_l11Parts -/
def con_spec_l11Parts (f : Nat → ((List (Int × Int)) × (List (Int × Int)) × (List (Int × (Int × (Int × (Int × Int))))) × (List (Int × (Int × Int))) × List ByteArray) → Option (Int)) : Con := ⟨[.agg [.sl (.pair (.int .i64) (.int .i64)), .sl (.pair (.int .i64) (.int .i64)), .sl (.pair (.int .i64) (.pair (.int .i64) (.pair (.int .i64) (.pair (.int .i64) (.int .i64))))), .sl (.pair (.int .i64) (.pair (.int .i64) (.int .i64))), .sl .str]], 1, [.v false [.int .i64]], f⟩
mutual
def spec_l11Parts_L3 : Nat → Int × Int × (List (Int × Int)) × (List (Int × Int)) × (List (Int × (Int × (Int × (Int × Int))))) × (List (Int × (Int × Int))) × List ByteArray × Unit → Option (Int)
  | 0, _ => none
  | k + 1, (b0, b1, b2, b3, b4, b5, b6, ()) =>
    if b1 < ((List.length b3 : Nat) : Int) then
     if 0 ≤ b1 then
      if b1 < ((List.length b3 : Nat) : Int) then
       if b0 < (List.getD b3 (Int.toNat b1) (0, 0)).1 then
        some 6
       else
        spec_l11Parts_L3 k (b0, (wrap64 (b1 + 1)), b2, b3, b4, b5, b6, ())
      else
       none
     else
      none
    else
     spec_l11Parts_L8 k (b0, 0, b2, b3, b4, b5, b6, ())
def spec_l11Parts_L8 : Nat → Int × Int × (List (Int × Int)) × (List (Int × Int)) × (List (Int × (Int × (Int × (Int × Int))))) × (List (Int × (Int × Int))) × List ByteArray × Unit → Option (Int)
  | 0, _ => none
  | k + 1, (b0, b1, b2, b3, b4, b5, b6, ()) =>
    if b1 < ((List.length b4 : Nat) : Int) then
     if 0 ≤ b1 then
      if b1 < ((List.length b4 : Nat) : Int) then
       if b0 < (List.getD b4 (Int.toNat b1) (0, (0, (0, (0, 0))))).2.1 then
        some 6
       else
        if 0 ≤ b1 then
         if b1 < ((List.length b4 : Nat) : Int) then
          if b0 < (List.getD b4 (Int.toNat b1) (0, (0, (0, (0, 0))))).2.2.1 then
           some 6
          else
           spec_l11Parts_L8 k (b0, (wrap64 (b1 + 1)), b2, b3, b4, b5, b6, ())
         else
          none
        else
         none
      else
       none
     else
      none
    else
     spec_l11Parts_L13 k (b0, 0, b2, b3, b4, b5, b6, ())
def spec_l11Parts_L13 : Nat → Int × Int × (List (Int × Int)) × (List (Int × Int)) × (List (Int × (Int × (Int × (Int × Int))))) × (List (Int × (Int × Int))) × List ByteArray × Unit → Option (Int)
  | 0, _ => none
  | k + 1, (b0, b1, b2, b3, b4, b5, b6, ()) =>
    if b1 < ((List.length b5 : Nat) : Int) then
     if 0 ≤ b1 then
      if b1 < ((List.length b5 : Nat) : Int) then
       if b0 < (List.getD b5 (Int.toNat b1) (0, (0, 0))).1 then
        some 6
       else
        spec_l11Parts_L13 k (b0, (wrap64 (b1 + 1)), b2, b3, b4, b5, b6, ())
      else
       none
     else
      none
    else
     some 0
end
def spec_l11Parts_ (k : Nat) : ((List (Int × Int)) × (List (Int × Int)) × (List (Int × (Int × (Int × (Int × Int))))) × (List (Int × (Int × Int))) × List ByteArray) → Option (Int)
  | (a0, a1, a2, a3, a4) =>
  spec_l11Parts_L3 k (((List.length a0 : Nat) : Int), 0, a0, a1, a2, a3, a4, ())
noncomputable def g_spec_l11Parts : ((List (Int × Int)) × (List (Int × Int)) × (List (Int × (Int × (Int × (Int × Int))))) × (List (Int × (Int × Int))) × List ByteArray) → Option (Int) := evG (spec_l11Parts_ )
theorem e_spec_l11Parts : ∀ x b, g_spec_l11Parts x = some b → ∃ k, spec_l11Parts_  k x = some b := evG_e _
/- spec_RulesOk -/
def con_spec_RulesOk (f : Nat → ((List (Int × (Int × Int)))) → Option (Bool)) : Con := ⟨[.c (.sl (.pair (.int .i64) (.pair (.int .i64) (.int .i64))))], 1, [.v false [.bool]], f⟩
mutual
def spec_RulesOk_L2 (spec_l01In : Nat → Int × Int × Int → Option (Bool)) : Nat → Int × (List (Int × (Int × Int))) × Unit → Option (Bool)
  | 0, _ => none
  | k + 1, (b0, b1, ()) =>
    if b0 < ((List.length b1 : Nat) : Int) then
     if 0 ≤ b0 then
      if b0 < ((List.length b1 : Nat) : Int) then (spec_l01In k ((List.getD b1 (Int.toNat b0) (0, (0, 0))).1, (1, 4))).bind fun v0 =>
       if v0 = true then
        (spec_l01In k ((List.getD b1 (Int.toNat b0) (0, (0, 0))).2.1, (1, 2))).bind fun v1 =>
        if v1 = true then
         (spec_l01In k ((List.getD b1 (Int.toNat b0) (0, (0, 0))).2.2, (0, 4))).bind fun v2 =>
         if v2 = true then
          if (List.getD b1 (Int.toNat b0) (0, (0, 0))).2.1 = 1 then
           if (List.getD b1 (Int.toNat b0) (0, (0, 0))).2.2 = 0 then
            some false
           else
            spec_RulesOk_L8 spec_l01In k (b0, 0, b1, (List.getD b1 (Int.toNat b0) (0, (0, 0))).1, (List.getD b1 (Int.toNat b0) (0, (0, 0))).2.1, (List.getD b1 (Int.toNat b0) (0, (0, 0))).2.2, ())
          else
           spec_RulesOk_L8 spec_l01In k (b0, 0, b1, (List.getD b1 (Int.toNat b0) (0, (0, 0))).1, (List.getD b1 (Int.toNat b0) (0, (0, 0))).2.1, (List.getD b1 (Int.toNat b0) (0, (0, 0))).2.2, ())
         else
          some false
        else
         some false
       else
        some false else none
     else
      none
    else
     some (decide (((List.length b1 : Nat) : Int) ≤ 8))
def spec_RulesOk_L8 (spec_l01In : Nat → Int × Int × Int → Option (Bool)) : Nat → Int × Int × (List (Int × (Int × Int))) × Int × Int × Int × Unit → Option (Bool)
  | 0, _ => none
  | k + 1, (b0, b1, b2, b3, b4, b5, ()) =>
    if b1 < b0 then
     if 0 ≤ b1 then
      if b1 < ((List.length b2 : Nat) : Int) then
       if (List.getD b2 (Int.toNat b1) (0, (0, 0))).1 = b3 then
        if 0 ≤ b1 then
         if b1 < ((List.length b2 : Nat) : Int) then
          if (List.getD b2 (Int.toNat b1) (0, (0, 0))).2.1 = b4 then
           some false
          else
           spec_RulesOk_L8 spec_l01In k (b0, (wrap64 (b1 + 1)), b2, b3, b4, b5, ())
         else
          none
        else
         none
       else
        spec_RulesOk_L8 spec_l01In k (b0, (wrap64 (b1 + 1)), b2, b3, b4, b5, ())
      else
       none
     else
      none
    else
     spec_RulesOk_L2 spec_l01In k ((wrap64 (b0 + 1)), b2, ())
end
def spec_RulesOk_ (spec_l01In : Nat → Int × Int × Int → Option (Bool)) (k : Nat) : ((List (Int × (Int × Int)))) → Option (Bool)
  | a0 =>
  spec_RulesOk_L2 spec_l01In k (0, a0, ())
noncomputable def g_spec_RulesOk : ((List (Int × (Int × Int)))) → Option (Bool) := evG (spec_RulesOk_ (fun _ => g_spec_l01In))
theorem e_spec_RulesOk : ∀ x b, g_spec_RulesOk x = some b → ∃ k, spec_RulesOk_ (fun _ => g_spec_l01In) k x = some b := evG_e _
/- spec_RegionsOk -/
def con_spec_RegionsOk (f : Nat → ((List (Int × Int))) → Option (Bool)) : Con := ⟨[.c (.sl (.pair (.int .i64) (.int .i64)))], 1, [.v false [.bool]], f⟩
mutual
def spec_RegionsOk_L2 (spec_l01In : Nat → Int × Int × Int → Option (Bool)) : Nat → Int × (List (Int × Int)) × Unit → Option (Bool)
  | 0, _ => none
  | k + 1, (b0, b1, ()) =>
    if b0 < ((List.length b1 : Nat) : Int) then
     if 0 ≤ b0 then
      if b0 < ((List.length b1 : Nat) : Int) then (spec_l01In k ((List.getD b1 (Int.toNat b0) (0, 0)).1, (0, 63))).bind fun v0 =>
       if v0 = true then
        (spec_l01In k ((List.getD b1 (Int.toNat b0) (0, 0)).2, (1, (wrap64 (64 - (List.getD b1 (Int.toNat b0) (0, 0)).1))))).bind fun v1 =>
        if v1 = true then
         spec_RegionsOk_L8 spec_l01In k (b0, 0, b1, (List.getD b1 (Int.toNat b0) (0, 0)).1, (List.getD b1 (Int.toNat b0) (0, 0)).2, ())
        else
         some false
       else
        some false else none
     else
      none
    else
     (spec_l01In k (((List.length b1 : Nat) : Int), (1, 4))).bind fun v2 =>
     some v2
def spec_RegionsOk_L8 (spec_l01In : Nat → Int × Int × Int → Option (Bool)) : Nat → Int × Int × (List (Int × Int)) × Int × Int × Unit → Option (Bool)
  | 0, _ => none
  | k + 1, (b0, b1, b2, b3, b4, ()) =>
    if b1 < b0 then
     if 0 ≤ b1 then
      if b1 < ((List.length b2 : Nat) : Int) then
       if 0 ≤ b1 then
        if b1 < ((List.length b2 : Nat) : Int) then
         if b3 < (wrap64 ((List.getD b2 (Int.toNat b1) (0, 0)).1 + (List.getD b2 (Int.toNat b1) (0, 0)).2)) then
          if 0 ≤ b1 then
           if b1 < ((List.length b2 : Nat) : Int) then
            if (List.getD b2 (Int.toNat b1) (0, 0)).1 < (wrap64 (b3 + b4)) then
             some false
            else
             spec_RegionsOk_L8 spec_l01In k (b0, (wrap64 (b1 + 1)), b2, b3, b4, ())
           else
            none
          else
           none
         else
          spec_RegionsOk_L8 spec_l01In k (b0, (wrap64 (b1 + 1)), b2, b3, b4, ())
        else
         none
       else
        none
      else
       none
     else
      none
    else
     spec_RegionsOk_L2 spec_l01In k ((wrap64 (b0 + 1)), b2, ())
end
def spec_RegionsOk_ (spec_l01In : Nat → Int × Int × Int → Option (Bool)) (k : Nat) : ((List (Int × Int))) → Option (Bool)
  | a0 =>
  spec_RegionsOk_L2 spec_l01In k (0, a0, ())
noncomputable def g_spec_RegionsOk : ((List (Int × Int))) → Option (Bool) := evG (spec_RegionsOk_ (fun _ => g_spec_l01In))
theorem e_spec_RegionsOk : ∀ x b, g_spec_RegionsOk x = some b → ∃ k, spec_RegionsOk_ (fun _ => g_spec_l01In) k x = some b := evG_e _
/- spec_SetupFault -/
def con_spec_SetupFault (f : Nat → ((List (Int × Int)) × (List (Int × Int)) × (List (Int × (Int × (Int × (Int × Int))))) × (List (Int × (Int × Int))) × List ByteArray) → Option (Int)) : Con := ⟨[.agg [.sl (.pair (.int .i64) (.int .i64)), .sl (.pair (.int .i64) (.int .i64)), .sl (.pair (.int .i64) (.pair (.int .i64) (.pair (.int .i64) (.pair (.int .i64) (.int .i64))))), .sl (.pair (.int .i64) (.pair (.int .i64) (.int .i64))), .sl .str]], 1, [.v false [.int .i64]], f⟩
mutual
def spec_SetupFault_L6 (spec_PlanOk : Nat → ((List (Int × Int))) → Option (Bool)) (spec_PortOk : Nat → (Int × Int × Int × Int × Int) → Option (Bool)) (spec_ReadCode : Nat → ByteArray → Option (((List (Int × Int))) × Bool)) (spec_RegionsOk : Nat → ((List (Int × Int))) → Option (Bool)) (spec_RulesOk : Nat → ((List (Int × (Int × Int)))) → Option (Bool)) (spec_l11Parts : Nat → ((List (Int × Int)) × (List (Int × Int)) × (List (Int × (Int × (Int × (Int × Int))))) × (List (Int × (Int × Int))) × List ByteArray) → Option (Int)) : Nat → Int × (List (Int × Int)) × (List (Int × Int)) × (List (Int × (Int × (Int × (Int × Int))))) × (List (Int × (Int × Int))) × List ByteArray × Unit → Option (Int)
  | 0, _ => none
  | k + 1, (b0, b1, b2, b3, b4, b5, ()) =>
    if b0 < ((List.length b3 : Nat) : Int) then
     if 0 ≤ b0 then
      if b0 < ((List.length b3 : Nat) : Int) then (spec_PortOk k (List.getD b3 (Int.toNat b0) (0, (0, (0, (0, 0)))))).bind fun v0 =>
       if v0 = true then
        if 6 ≤ b0 then
         some 3
        else
         spec_SetupFault_L6 spec_PlanOk spec_PortOk spec_ReadCode spec_RegionsOk spec_RulesOk spec_l11Parts k ((wrap64 (b0 + 1)), b1, b2, b3, b4, b5, ())
       else
        some 3 else none
     else
      none
    else
     (spec_RulesOk k b4).bind fun v1 =>
     if v1 = true then
      if ((List.length b5 : Nat) : Int) = ((List.length b1 : Nat) : Int) then
       spec_SetupFault_L15 spec_PlanOk spec_PortOk spec_ReadCode spec_RegionsOk spec_RulesOk spec_l11Parts k (0, b1, b2, b3, b4, b5, ())
      else
       some 5
     else
      some 4
def spec_SetupFault_L15 (spec_PlanOk : Nat → ((List (Int × Int))) → Option (Bool)) (spec_PortOk : Nat → (Int × Int × Int × Int × Int) → Option (Bool)) (spec_ReadCode : Nat → ByteArray → Option (((List (Int × Int))) × Bool)) (spec_RegionsOk : Nat → ((List (Int × Int))) → Option (Bool)) (spec_RulesOk : Nat → ((List (Int × (Int × Int)))) → Option (Bool)) (spec_l11Parts : Nat → ((List (Int × Int)) × (List (Int × Int)) × (List (Int × (Int × (Int × (Int × Int))))) × (List (Int × (Int × Int))) × List ByteArray) → Option (Int)) : Nat → Int × (List (Int × Int)) × (List (Int × Int)) × (List (Int × (Int × (Int × (Int × Int))))) × (List (Int × (Int × Int))) × List ByteArray × Unit → Option (Int)
  | 0, _ => none
  | k + 1, (b0, b1, b2, b3, b4, b5, ()) =>
    if b0 < ((List.length b5 : Nat) : Int) then
     if 0 ≤ b0 then
      if b0 < ((List.length b5 : Nat) : Int) then (spec_ReadCode k (List.getD b5 (Int.toNat b0) (⟨#[]⟩ : ByteArray))).bind fun v0 =>
       if v0.2 = true then
        spec_SetupFault_L15 spec_PlanOk spec_PortOk spec_ReadCode spec_RegionsOk spec_RulesOk spec_l11Parts k ((wrap64 (b0 + 1)), b1, b2, b3, b4, b5, ())
       else
        some 5 else none
     else
      none
    else
     (spec_l11Parts k (b1, (b2, (b3, (b4, b5))))).bind fun v1 =>
     some v1
end
def spec_SetupFault_ (spec_PlanOk : Nat → ((List (Int × Int))) → Option (Bool)) (spec_PortOk : Nat → (Int × Int × Int × Int × Int) → Option (Bool)) (spec_ReadCode : Nat → ByteArray → Option (((List (Int × Int))) × Bool)) (spec_RegionsOk : Nat → ((List (Int × Int))) → Option (Bool)) (spec_RulesOk : Nat → ((List (Int × (Int × Int)))) → Option (Bool)) (spec_l11Parts : Nat → ((List (Int × Int)) × (List (Int × Int)) × (List (Int × (Int × (Int × (Int × Int))))) × (List (Int × (Int × Int))) × List ByteArray) → Option (Int)) (k : Nat) : ((List (Int × Int)) × (List (Int × Int)) × (List (Int × (Int × (Int × (Int × Int))))) × (List (Int × (Int × Int))) × List ByteArray) → Option (Int)
  | (a0, a1, a2, a3, a4) =>
  (spec_RegionsOk k a0).bind fun v0 =>
  if v0 = true then
   (spec_PlanOk k a1).bind fun v1 =>
   if v1 = true then
    spec_SetupFault_L6 spec_PlanOk spec_PortOk spec_ReadCode spec_RegionsOk spec_RulesOk spec_l11Parts k (0, a0, a1, a2, a3, a4, ())
   else
    some 2
  else
   some 1
noncomputable def g_spec_SetupFault : ((List (Int × Int)) × (List (Int × Int)) × (List (Int × (Int × (Int × (Int × Int))))) × (List (Int × (Int × Int))) × List ByteArray) → Option (Int) := evG (spec_SetupFault_ (fun _ => g_spec_PlanOk) (fun _ => g_spec_PortOk) (fun _ => g_spec_ReadCode) (fun _ => g_spec_RegionsOk) (fun _ => g_spec_RulesOk) (fun _ => g_spec_l11Parts))
theorem e_spec_SetupFault : ∀ x b, g_spec_SetupFault x = some b → ∃ k, spec_SetupFault_ (fun _ => g_spec_PlanOk) (fun _ => g_spec_PortOk) (fun _ => g_spec_ReadCode) (fun _ => g_spec_RegionsOk) (fun _ => g_spec_RulesOk) (fun _ => g_spec_l11Parts) k x = some b := evG_e _
/- spec_KernelOk -/
def con_spec_KernelOk (f : Nat → ((List (Int × Int)) × (List (Int × Int)) × (List (Int × (Int × (Int × (Int × Int))))) × (List (Int × (Int × Int))) × List ByteArray × List Int × (List (Int × ((Int × (List Int)) × (Int × (Int × Int))))) × (List (List (Int × Int))) × List Int × Int × Bool × (List (Int × (Int × (Int × (Int × Int)))))) → Option (Bool)) : Con := ⟨[.agg [.sl (.pair (.int .i64) (.int .i64)), .sl (.pair (.int .i64) (.int .i64)), .sl (.pair (.int .i64) (.pair (.int .i64) (.pair (.int .i64) (.pair (.int .i64) (.int .i64))))), .sl (.pair (.int .i64) (.pair (.int .i64) (.int .i64))), .sl .str, .sl (.int .i64), .nsl (.pair (.f (.int .i64)) (.pair (.pair (.f (.int .i64)) (.sl (.int .i64))) (.pair (.f (.int .i64)) (.pair (.f (.int .i64)) (.f (.int .i64)))))), .nsl (.sl (.pair (.int .i64) (.int .i64))), .sl (.int .i64), .int .i64, .bool, .sl (.pair (.int .i64) (.pair (.int .i64) (.pair (.int .i64) (.pair (.int .i64) (.int .i64)))))]], 1, [.v false [.bool]], f⟩
mutual
def spec_KernelOk_L4 (spec_CpuOk : Nat → (Int × List Int) → Option (Bool)) (spec_SetupFault : Nat → ((List (Int × Int)) × (List (Int × Int)) × (List (Int × (Int × (Int × (Int × Int))))) × (List (Int × (Int × Int))) × List ByteArray) → Option (Int)) (spec_l01In : Nat → Int × Int × Int → Option (Bool)) (spec_l12Words : Nat → List Int → Option (Bool)) : Nat → Int × (List (Int × Int)) × (List (Int × Int)) × (List (Int × (Int × (Int × (Int × Int))))) × (List (Int × (Int × Int))) × List ByteArray × List Int × (List (Int × ((Int × (List Int)) × (Int × (Int × Int))))) × (List (List (Int × Int))) × List Int × (List (Int × (Int × (Int × (Int × Int))))) × Int × Bool × Unit → Option (Bool)
  | 0, _ => none
  | k + 1, (b0, b1, b2, b3, b4, b5, b6, b7, b8, b9, b10, b11, b12, ()) =>
    if b0 < ((List.length b7 : Nat) : Int) then
     if 0 ≤ b0 then
      if b0 < ((List.length b7 : Nat) : Int) then (spec_l01In k ((List.getD b7 (Int.toNat b0) (0, ((0, ([] : List Int)), (0, (0, 0))))).1, (0, 1))).bind fun v0 =>
       if v0 = true then
        (spec_CpuOk k (List.getD b7 (Int.toNat b0) (0, ((0, ([] : List Int)), (0, (0, 0))))).2.1).bind fun v1 =>
        if v1 = true then
         (spec_l01In k ((List.getD b7 (Int.toNat b0) (0, ((0, ([] : List Int)), (0, (0, 0))))).2.2.1, (0, 1000000000))).bind fun v2 =>
         if v2 = true then
          (spec_l01In k ((List.getD b7 (Int.toNat b0) (0, ((0, ([] : List Int)), (0, (0, 0))))).2.2.2.1, (0, 1000000000))).bind fun v3 =>
          if v3 = true then
           (spec_l01In k ((List.getD b7 (Int.toNat b0) (0, ((0, ([] : List Int)), (0, (0, 0))))).2.2.2.2, (0, 1000000000))).bind fun v4 =>
           if v4 = true then
            spec_KernelOk_L4 spec_CpuOk spec_SetupFault spec_l01In spec_l12Words k ((wrap64 (b0 + 1)), b1, b2, b3, b4, b5, b6, b7, b8, b9, b10, b11, b12, ())
           else
            some false
          else
           some false
         else
          some false
        else
         some false
       else
        some false else none
     else
      none
    else
     spec_KernelOk_L10 spec_CpuOk spec_SetupFault spec_l01In spec_l12Words k (0, b1, b2, b3, b4, b5, b6, b7, b8, b9, b10, b11, b12, ())
def spec_KernelOk_L10 (spec_CpuOk : Nat → (Int × List Int) → Option (Bool)) (spec_SetupFault : Nat → ((List (Int × Int)) × (List (Int × Int)) × (List (Int × (Int × (Int × (Int × Int))))) × (List (Int × (Int × Int))) × List ByteArray) → Option (Int)) (spec_l01In : Nat → Int × Int × Int → Option (Bool)) (spec_l12Words : Nat → List Int → Option (Bool)) : Nat → Int × (List (Int × Int)) × (List (Int × Int)) × (List (Int × (Int × (Int × (Int × Int))))) × (List (Int × (Int × Int))) × List ByteArray × List Int × (List (Int × ((Int × (List Int)) × (Int × (Int × Int))))) × (List (List (Int × Int))) × List Int × (List (Int × (Int × (Int × (Int × Int))))) × Int × Bool × Unit → Option (Bool)
  | 0, _ => none
  | k + 1, (b0, b1, b2, b3, b4, b5, b6, b7, b8, b9, b10, b11, b12, ()) =>
    if b0 < ((List.length b8 : Nat) : Int) then
     if 0 ≤ b0 then
      if b0 < ((List.length b8 : Nat) : Int) then
       if 0 ≤ b0 then
        if b0 < ((List.length b3 : Nat) : Int) then
         if (List.getD b3 (Int.toNat b0) (0, (0, (0, (0, 0))))).2.2.2.1 < ((List.length (List.getD b8 (Int.toNat b0) ([] : List (Int × Int))) : Nat) : Int) then
          some false
         else
          spec_KernelOk_L10 spec_CpuOk spec_SetupFault spec_l01In spec_l12Words k ((wrap64 (b0 + 1)), b1, b2, b3, b4, b5, b6, b7, b8, b9, b10, b11, b12, ())
        else
         none
       else
        none
      else
       none
     else
      none
    else
     some true
end
def spec_KernelOk_ (spec_CpuOk : Nat → (Int × List Int) → Option (Bool)) (spec_SetupFault : Nat → ((List (Int × Int)) × (List (Int × Int)) × (List (Int × (Int × (Int × (Int × Int))))) × (List (Int × (Int × Int))) × List ByteArray) → Option (Int)) (spec_l01In : Nat → Int × Int × Int → Option (Bool)) (spec_l12Words : Nat → List Int → Option (Bool)) (k : Nat) : ((List (Int × Int)) × (List (Int × Int)) × (List (Int × (Int × (Int × (Int × Int))))) × (List (Int × (Int × Int))) × List ByteArray × List Int × (List (Int × ((Int × (List Int)) × (Int × (Int × Int))))) × (List (List (Int × Int))) × List Int × Int × Bool × (List (Int × (Int × (Int × (Int × Int)))))) → Option (Bool)
  | (a0, a1, a2, a3, a4, a5, a6, a7, a8, a9, a10, a11) =>
  (spec_SetupFault k (a0, (a1, (a2, (a3, a4))))).bind fun v0 =>
  if v0 = 0 then
   if ((List.length a5 : Nat) : Int) = 64 then
    (spec_l12Words k a5).bind fun v1 =>
    if v1 = true then
     if ((List.length a6 : Nat) : Int) = ((List.length a0 : Nat) : Int) then
      if ((List.length a7 : Nat) : Int) = ((List.length a2 : Nat) : Int) then
       if ((List.length a8 : Nat) : Int) = 8 then
        (spec_l12Words k a8).bind fun v2 =>
        if v2 = true then
         (spec_l01In k (a9, (0, 1000000000))).bind fun v3 =>
         if v3 = true then
          spec_KernelOk_L4 spec_CpuOk spec_SetupFault spec_l01In spec_l12Words k (0, a0, a1, a2, a3, a4, a5, a6, a7, a8, a11, a9, a10, ())
         else
          some false
        else
         some false
       else
        some false
      else
       some false
     else
      some false
    else
     some false
   else
    some false
  else
   some false
noncomputable def g_spec_KernelOk : ((List (Int × Int)) × (List (Int × Int)) × (List (Int × (Int × (Int × (Int × Int))))) × (List (Int × (Int × Int))) × List ByteArray × List Int × (List (Int × ((Int × (List Int)) × (Int × (Int × Int))))) × (List (List (Int × Int))) × List Int × Int × Bool × (List (Int × (Int × (Int × (Int × Int)))))) → Option (Bool) := evG (spec_KernelOk_ (fun _ => g_spec_CpuOk) (fun _ => g_spec_SetupFault) (fun _ => g_spec_l01In) (fun _ => g_spec_l12Words))
theorem e_spec_KernelOk : ∀ x b, g_spec_KernelOk x = some b → ∃ k, spec_KernelOk_ (fun _ => g_spec_CpuOk) (fun _ => g_spec_SetupFault) (fun _ => g_spec_l01In) (fun _ => g_spec_l12Words) k x = some b := evG_e _
/- spec_l12Setup -/
def con_spec_l12Setup (f : Nat → ((List (Int × Int)) × (List (Int × Int)) × (List (Int × (Int × (Int × (Int × Int))))) × (List (Int × (Int × Int))) × List ByteArray) → Option (((List (Int × Int)) × (List (Int × Int)) × (List (Int × (Int × (Int × (Int × Int))))) × (List (Int × (Int × Int))) × List ByteArray))) : Con := ⟨[.agg [.sl (.pair (.int .i64) (.int .i64)), .sl (.pair (.int .i64) (.int .i64)), .sl (.pair (.int .i64) (.pair (.int .i64) (.pair (.int .i64) (.pair (.int .i64) (.int .i64))))), .sl (.pair (.int .i64) (.pair (.int .i64) (.int .i64))), .sl .str]], 1, [.v true [.own (.pair (.int .i64) (.int .i64)) 218, .own (.pair (.int .i64) (.int .i64)) 102, .own (.pair (.int .i64) (.pair (.int .i64) (.pair (.int .i64) (.pair (.int .i64) (.int .i64))))) 247, .own (.pair (.int .i64) (.pair (.int .i64) (.int .i64))) 259, .own .str 9]], f⟩
def spec_l12Setup_ (k : Nat) : ((List (Int × Int)) × (List (Int × Int)) × (List (Int × (Int × (Int × (Int × Int))))) × (List (Int × (Int × Int))) × List ByteArray) → Option (((List (Int × Int)) × (List (Int × Int)) × (List (Int × (Int × (Int × (Int × Int))))) × (List (Int × (Int × Int))) × List ByteArray))
  | (a0, a1, a2, a3, a4) =>
  if (((List.length ([] : List (Int × Int)) + List.length a0 : Nat) : Int) * ((16 : Nat) : Int)) ≤ 140737488355328 then
   if (((List.length ([] : List (Int × Int)) + List.length a1 : Nat) : Int) * ((16 : Nat) : Int)) ≤ 140737488355328 then
    if (((List.length ([] : List (Int × (Int × (Int × (Int × Int))))) + List.length a2 : Nat) : Int) * ((40 : Nat) : Int)) ≤ 140737488355328 then
     if (((List.length ([] : List (Int × (Int × Int))) + List.length a3 : Nat) : Int) * ((24 : Nat) : Int)) ≤ 140737488355328 then
      if (((List.length ([] : List ByteArray) + List.length a4 : Nat) : Int) * ((16 : Nat) : Int)) ≤ 140737488355328 then some ((([] : List (Int × Int)) ++ a0), ((([] : List (Int × Int)) ++ a1), ((([] : List (Int × (Int × (Int × (Int × Int))))) ++ a2), ((([] : List (Int × (Int × Int))) ++ a3), (([] : List ByteArray) ++ a4))))) else none
     else
      none
    else
     none
   else
    none
  else
   none
noncomputable def g_spec_l12Setup : ((List (Int × Int)) × (List (Int × Int)) × (List (Int × (Int × (Int × (Int × Int))))) × (List (Int × (Int × Int))) × List ByteArray) → Option (((List (Int × Int)) × (List (Int × Int)) × (List (Int × (Int × (Int × (Int × Int))))) × (List (Int × (Int × Int))) × List ByteArray)) := spec_l12Setup_  0
theorem e_spec_l12Setup : ∀ x b, g_spec_l12Setup x = some b → ∃ k, spec_l12Setup_  k x = some b := fun x b h => ⟨0, h⟩
/- spec_l12Copy -/
def con_spec_l12Copy (f : Nat → ((List (Int × Int)) × (List (Int × Int)) × (List (Int × (Int × (Int × (Int × Int))))) × (List (Int × (Int × Int))) × List ByteArray × List Int × (List (Int × ((Int × (List Int)) × (Int × (Int × Int))))) × (List (List (Int × Int))) × List Int × Int × Bool × (List (Int × (Int × (Int × (Int × Int)))))) → Option (((List (Int × Int)) × (List (Int × Int)) × (List (Int × (Int × (Int × (Int × Int))))) × (List (Int × (Int × Int))) × List ByteArray × List Int × (List (Int × ((Int × (List Int)) × (Int × (Int × Int))))) × (List (List (Int × Int))) × List Int × Int × Bool × (List (Int × (Int × (Int × (Int × Int)))))))) : Con := ⟨[.agg [.sl (.pair (.int .i64) (.int .i64)), .sl (.pair (.int .i64) (.int .i64)), .sl (.pair (.int .i64) (.pair (.int .i64) (.pair (.int .i64) (.pair (.int .i64) (.int .i64))))), .sl (.pair (.int .i64) (.pair (.int .i64) (.int .i64))), .sl .str, .sl (.int .i64), .nsl (.pair (.f (.int .i64)) (.pair (.pair (.f (.int .i64)) (.sl (.int .i64))) (.pair (.f (.int .i64)) (.pair (.f (.int .i64)) (.f (.int .i64)))))), .nsl (.sl (.pair (.int .i64) (.int .i64))), .sl (.int .i64), .int .i64, .bool, .sl (.pair (.int .i64) (.pair (.int .i64) (.pair (.int .i64) (.pair (.int .i64) (.int .i64)))))]], 1, [.v true [.own (.pair (.int .i64) (.int .i64)) 218, .own (.pair (.int .i64) (.int .i64)) 102, .own (.pair (.int .i64) (.pair (.int .i64) (.pair (.int .i64) (.pair (.int .i64) (.int .i64))))) 247, .own (.pair (.int .i64) (.pair (.int .i64) (.int .i64))) 259, .own .str 9, .own (.int .i64) 3, .nown (.pair (.f (.int .i64)) (.pair (.pair (.f (.int .i64)) (.sl (.int .i64))) (.pair (.f (.int .i64)) (.pair (.f (.int .i64)) (.f (.int .i64)))))) 147, .nown (.sl (.pair (.int .i64) (.int .i64))) 227, .own (.int .i64) 3, .int .i64, .bool, .own (.pair (.int .i64) (.pair (.int .i64) (.pair (.int .i64) (.pair (.int .i64) (.int .i64))))) 172]], f⟩
mutual
def spec_l12Copy_L6 (spec_l04Copy : Nat → List Int → Option (List Int)) (spec_l06Copy : Nat → (Int × List Int) → Option ((Int × List Int))) (spec_l08Copy : Nat → ((List (Int × Int))) → Option (((List (Int × Int))))) (spec_l12Setup : Nat → ((List (Int × Int)) × (List (Int × Int)) × (List (Int × (Int × (Int × (Int × Int))))) × (List (Int × (Int × Int))) × List ByteArray) → Option (((List (Int × Int)) × (List (Int × Int)) × (List (Int × (Int × (Int × (Int × Int))))) × (List (Int × (Int × Int))) × List ByteArray))) : Nat → Int × (List (Int × Int)) × (List (Int × Int)) × (List (Int × (Int × (Int × (Int × Int))))) × (List (Int × (Int × Int))) × List ByteArray × List Int × (List (Int × ((Int × (List Int)) × (Int × (Int × Int))))) × (List (List (Int × Int))) × List Int × (List (Int × (Int × (Int × (Int × Int))))) × Int × Bool × Int × Bool × Int × Bool × (List (Int × Int)) × (List (Int × Int)) × (List (Int × (Int × (Int × (Int × Int))))) × (List (Int × (Int × Int))) × List ByteArray × List Int × List Int × List Int × List Int × (List (Int × (Int × (Int × (Int × Int))))) × (List (Int × Int)) × (List (Int × Int)) × (List (Int × (Int × (Int × (Int × Int))))) × (List (Int × (Int × Int))) × List ByteArray × List Int × (List (Int × ((Int × (List Int)) × (Int × (Int × Int))))) × Unit → Option (((List (Int × Int)) × (List (Int × Int)) × (List (Int × (Int × (Int × (Int × Int))))) × (List (Int × (Int × Int))) × List ByteArray × List Int × (List (Int × ((Int × (List Int)) × (Int × (Int × Int))))) × (List (List (Int × Int))) × List Int × Int × Bool × (List (Int × (Int × (Int × (Int × Int)))))))
  | 0, _ => none
  | k + 1, (b0, b1, b2, b3, b4, b5, b6, b7, b8, b9, b10, b11, b12, b13, b14, b15, b16, b17, b18, b19, b20, b21, b22, b23, b24, b25, b26, b27, b28, b29, b30, b31, b32, b33, ()) =>
    if b0 < ((List.length b7 : Nat) : Int) then
     if 0 ≤ b0 then
      if b0 < ((List.length b7 : Nat) : Int) then (spec_l06Copy k (List.getD b7 (Int.toNat b0) (0, ((0, ([] : List Int)), (0, (0, 0))))).2.1).bind fun v0 =>
       if (((List.length b33 + List.length [((List.getD b7 (Int.toNat b0) (0, ((0, ([] : List Int)), (0, (0, 0))))).1, (v0, (List.getD b7 (Int.toNat b0) (0, ((0, ([] : List Int)), (0, (0, 0))))).2.2))] : Nat) : Int) * ((64 : Nat) : Int)) ≤ 140737488355328 then spec_l12Copy_L6 spec_l04Copy spec_l06Copy spec_l08Copy spec_l12Setup k ((wrap64 (b0 + 1)), b1, b2, b3, b4, b5, b6, b7, b8, b9, b10, b11, b12, b13, b14, b15, b16, b17, b18, b19, b20, b21, b22, b23, b24, b25, b26, b27, b28, b29, b30, b31, b32, (b33 ++ [((List.getD b7 (Int.toNat b0) (0, ((0, ([] : List Int)), (0, (0, 0))))).1, (v0, (List.getD b7 (Int.toNat b0) (0, ((0, ([] : List Int)), (0, (0, 0))))).2.2))]), ()) else none else none
     else
      none
    else
     spec_l12Copy_L13 spec_l04Copy spec_l06Copy spec_l08Copy spec_l12Setup k (0, b1, b2, b3, b4, b5, b6, b7, b8, b9, b10, b11, b12, b13, b14, b15, b16, b17, b18, b19, b20, b21, b22, b23, b24, b25, b26, b27, b28, b29, b30, b31, b32, b33, ([] : List (List (Int × Int))), ())
def spec_l12Copy_L13 (spec_l04Copy : Nat → List Int → Option (List Int)) (spec_l06Copy : Nat → (Int × List Int) → Option ((Int × List Int))) (spec_l08Copy : Nat → ((List (Int × Int))) → Option (((List (Int × Int))))) (spec_l12Setup : Nat → ((List (Int × Int)) × (List (Int × Int)) × (List (Int × (Int × (Int × (Int × Int))))) × (List (Int × (Int × Int))) × List ByteArray) → Option (((List (Int × Int)) × (List (Int × Int)) × (List (Int × (Int × (Int × (Int × Int))))) × (List (Int × (Int × Int))) × List ByteArray))) : Nat → Int × (List (Int × Int)) × (List (Int × Int)) × (List (Int × (Int × (Int × (Int × Int))))) × (List (Int × (Int × Int))) × List ByteArray × List Int × (List (Int × ((Int × (List Int)) × (Int × (Int × Int))))) × (List (List (Int × Int))) × List Int × (List (Int × (Int × (Int × (Int × Int))))) × Int × Bool × Int × Bool × Int × Bool × (List (Int × Int)) × (List (Int × Int)) × (List (Int × (Int × (Int × (Int × Int))))) × (List (Int × (Int × Int))) × List ByteArray × List Int × List Int × List Int × List Int × (List (Int × (Int × (Int × (Int × Int))))) × (List (Int × Int)) × (List (Int × Int)) × (List (Int × (Int × (Int × (Int × Int))))) × (List (Int × (Int × Int))) × List ByteArray × List Int × (List (Int × ((Int × (List Int)) × (Int × (Int × Int))))) × (List (List (Int × Int))) × Unit → Option (((List (Int × Int)) × (List (Int × Int)) × (List (Int × (Int × (Int × (Int × Int))))) × (List (Int × (Int × Int))) × List ByteArray × List Int × (List (Int × ((Int × (List Int)) × (Int × (Int × Int))))) × (List (List (Int × Int))) × List Int × Int × Bool × (List (Int × (Int × (Int × (Int × Int)))))))
  | 0, _ => none
  | k + 1, (b0, b1, b2, b3, b4, b5, b6, b7, b8, b9, b10, b11, b12, b13, b14, b15, b16, b17, b18, b19, b20, b21, b22, b23, b24, b25, b26, b27, b28, b29, b30, b31, b32, b33, b34, ()) =>
    if b0 < ((List.length b8 : Nat) : Int) then
     if 0 ≤ b0 then
      if b0 < ((List.length b8 : Nat) : Int) then (spec_l08Copy k (List.getD b8 (Int.toNat b0) ([] : List (Int × Int)))).bind fun v0 =>
       if (((List.length b34 + List.length [v0] : Nat) : Int) * ((24 : Nat) : Int)) ≤ 140737488355328 then spec_l12Copy_L13 spec_l04Copy spec_l06Copy spec_l08Copy spec_l12Setup k ((wrap64 (b0 + 1)), b1, b2, b3, b4, b5, b6, b7, b8, b9, b10, b11, b12, b13, b14, b15, b16, b17, b18, b19, b20, b21, b22, b23, b24, b25, b26, b27, b28, b29, b30, b31, b32, b33, (b34 ++ [v0]), ()) else none else none
     else
      none
    else
     if (((List.length ([] : List Int) + List.length b9 : Nat) : Int) * ((8 : Nat) : Int)) ≤ 140737488355328 then
      if (((List.length ([] : List (Int × (Int × (Int × (Int × Int))))) + List.length b10 : Nat) : Int) * ((40 : Nat) : Int)) ≤ 140737488355328 then some (b27, (b28, (b29, (b30, (b31, (b32, (b33, (b34, ((([] : List Int) ++ b9), (b15, (b16, (([] : List (Int × (Int × (Int × (Int × Int))))) ++ b10)))))))))))) else none
     else
      none
end
def spec_l12Copy_ (spec_l04Copy : Nat → List Int → Option (List Int)) (spec_l06Copy : Nat → (Int × List Int) → Option ((Int × List Int))) (spec_l08Copy : Nat → ((List (Int × Int))) → Option (((List (Int × Int))))) (spec_l12Setup : Nat → ((List (Int × Int)) × (List (Int × Int)) × (List (Int × (Int × (Int × (Int × Int))))) × (List (Int × (Int × Int))) × List ByteArray) → Option (((List (Int × Int)) × (List (Int × Int)) × (List (Int × (Int × (Int × (Int × Int))))) × (List (Int × (Int × Int))) × List ByteArray))) (k : Nat) : ((List (Int × Int)) × (List (Int × Int)) × (List (Int × (Int × (Int × (Int × Int))))) × (List (Int × (Int × Int))) × List ByteArray × List Int × (List (Int × ((Int × (List Int)) × (Int × (Int × Int))))) × (List (List (Int × Int))) × List Int × Int × Bool × (List (Int × (Int × (Int × (Int × Int)))))) → Option (((List (Int × Int)) × (List (Int × Int)) × (List (Int × (Int × (Int × (Int × Int))))) × (List (Int × (Int × Int))) × List ByteArray × List Int × (List (Int × ((Int × (List Int)) × (Int × (Int × Int))))) × (List (List (Int × Int))) × List Int × Int × Bool × (List (Int × (Int × (Int × (Int × Int)))))))
  | (a0, a1, a2, a3, a4, a5, a6, a7, a8, a9, a10, a11) =>
  (spec_l12Setup k (a0, (a1, (a2, (a3, a4))))).bind fun v0 =>
  (spec_l04Copy k a5).bind fun v1 =>
  spec_l12Copy_L6 spec_l04Copy spec_l06Copy spec_l08Copy spec_l12Setup k (0, a0, a1, a2, a3, a4, a5, a6, a7, a8, a11, a9, a10, 0, false, a9, a10, [], [], [], [], [], [], [], [], [], [], v0.1, v0.2.1, v0.2.2.1, v0.2.2.2.1, v0.2.2.2.2, v1, ([] : List (Int × ((Int × (List Int)) × (Int × (Int × Int))))), ())
noncomputable def g_spec_l12Copy : ((List (Int × Int)) × (List (Int × Int)) × (List (Int × (Int × (Int × (Int × Int))))) × (List (Int × (Int × Int))) × List ByteArray × List Int × (List (Int × ((Int × (List Int)) × (Int × (Int × Int))))) × (List (List (Int × Int))) × List Int × Int × Bool × (List (Int × (Int × (Int × (Int × Int)))))) → Option (((List (Int × Int)) × (List (Int × Int)) × (List (Int × (Int × (Int × (Int × Int))))) × (List (Int × (Int × Int))) × List ByteArray × List Int × (List (Int × ((Int × (List Int)) × (Int × (Int × Int))))) × (List (List (Int × Int))) × List Int × Int × Bool × (List (Int × (Int × (Int × (Int × Int))))))) := evG (spec_l12Copy_ (fun _ => g_spec_l04Copy) (fun _ => g_spec_l06Copy) (fun _ => g_spec_l08Copy) (fun _ => g_spec_l12Setup))
theorem e_spec_l12Copy : ∀ x b, g_spec_l12Copy x = some b → ∃ k, spec_l12Copy_ (fun _ => g_spec_l04Copy) (fun _ => g_spec_l06Copy) (fun _ => g_spec_l08Copy) (fun _ => g_spec_l12Setup) k x = some b := evG_e _
/- spec_RunPart -/
def con_spec_RunPart (f : Nat → ((List (Int × Int)) × (List (Int × Int)) × (List (Int × (Int × (Int × (Int × Int))))) × (List (Int × (Int × Int))) × List ByteArray × List Int × (List (Int × ((Int × (List Int)) × (Int × (Int × Int))))) × (List (List (Int × Int))) × List Int × Int × Bool × (List (Int × (Int × (Int × (Int × Int)))))) × Int × Int × List Int → Option (((List (Int × Int)) × (List (Int × Int)) × (List (Int × (Int × (Int × (Int × Int))))) × (List (Int × (Int × Int))) × List ByteArray × List Int × (List (Int × ((Int × (List Int)) × (Int × (Int × Int))))) × (List (List (Int × Int))) × List Int × Int × Bool × (List (Int × (Int × (Int × (Int × Int)))))) × Int × Int)) : Con := ⟨[.agg [.sl (.pair (.int .i64) (.int .i64)), .sl (.pair (.int .i64) (.int .i64)), .sl (.pair (.int .i64) (.pair (.int .i64) (.pair (.int .i64) (.pair (.int .i64) (.int .i64))))), .sl (.pair (.int .i64) (.pair (.int .i64) (.int .i64))), .sl .str, .sl (.int .i64), .nsl (.pair (.f (.int .i64)) (.pair (.pair (.f (.int .i64)) (.sl (.int .i64))) (.pair (.f (.int .i64)) (.pair (.f (.int .i64)) (.f (.int .i64)))))), .nsl (.sl (.pair (.int .i64) (.int .i64))), .sl (.int .i64), .int .i64, .bool, .sl (.pair (.int .i64) (.pair (.int .i64) (.pair (.int .i64) (.pair (.int .i64) (.int .i64)))))], .c (.int .i64), .c (.int .i64), .c (.sl (.int .i64))], 3, [.v true [.own (.pair (.int .i64) (.int .i64)) 218, .own (.pair (.int .i64) (.int .i64)) 102, .own (.pair (.int .i64) (.pair (.int .i64) (.pair (.int .i64) (.pair (.int .i64) (.int .i64))))) 247, .own (.pair (.int .i64) (.pair (.int .i64) (.int .i64))) 259, .own .str 9, .own (.int .i64) 3, .nown (.pair (.f (.int .i64)) (.pair (.pair (.f (.int .i64)) (.sl (.int .i64))) (.pair (.f (.int .i64)) (.pair (.f (.int .i64)) (.f (.int .i64)))))) 147, .nown (.sl (.pair (.int .i64) (.int .i64))) 227, .own (.int .i64) 3, .int .i64, .bool, .own (.pair (.int .i64) (.pair (.int .i64) (.pair (.int .i64) (.pair (.int .i64) (.int .i64))))) 172], .v false [.int .i64], .v false [.int .i64]], f⟩
def spec_RunPart_L8 (spec_CostOf : Nat → Int → Option (Int)) (spec_KernelOk : Nat → ((List (Int × Int)) × (List (Int × Int)) × (List (Int × (Int × (Int × (Int × Int))))) × (List (Int × (Int × Int))) × List ByteArray × List Int × (List (Int × ((Int × (List Int)) × (Int × (Int × Int))))) × (List (List (Int × Int))) × List Int × Int × Bool × (List (Int × (Int × (Int × (Int × Int)))))) → Option (Bool)) (spec_ReadCode : Nat → ByteArray → Option (((List (Int × Int))) × Bool)) (spec_l01In : Nat → Int × Int × Int → Option (Bool)) (spec_l12Copy : Nat → ((List (Int × Int)) × (List (Int × Int)) × (List (Int × (Int × (Int × (Int × Int))))) × (List (Int × (Int × Int))) × List ByteArray × List Int × (List (Int × ((Int × (List Int)) × (Int × (Int × Int))))) × (List (List (Int × Int))) × List Int × Int × Bool × (List (Int × (Int × (Int × (Int × Int)))))) → Option (((List (Int × Int)) × (List (Int × Int)) × (List (Int × (Int × (Int × (Int × Int))))) × (List (Int × (Int × Int))) × List ByteArray × List Int × (List (Int × ((Int × (List Int)) × (Int × (Int × Int))))) × (List (List (Int × Int))) × List Int × Int × Bool × (List (Int × (Int × (Int × (Int × Int)))))))) (spec_l12Step : Nat → ((List (Int × Int)) × (List (Int × Int)) × (List (Int × (Int × (Int × (Int × Int))))) × (List (Int × (Int × Int))) × List ByteArray × List Int × (List (Int × ((Int × (List Int)) × (Int × (Int × Int))))) × (List (List (Int × Int))) × List Int × Int × Bool × (List (Int × (Int × (Int × (Int × Int)))))) × Int × ((List (Int × Int))) × List Int → Option (Bool × Int × Int × (Unit × Unit × Unit × Unit × Unit × List Int × (List (Int × ((Int × (List Int)) × (Int × (Int × Int))))) × (List (List (Int × Int))) × List Int × Int × Bool × Unit))) : Nat → Int × Int × List Int × Int × Bool × Int × Bool × (List (Int × Int)) × (List (Int × Int)) × (List (Int × Int)) × (List (Int × (Int × (Int × (Int × Int))))) × (List (Int × (Int × Int))) × List ByteArray × List Int × List Int × List Int × List Int × (List (Int × (Int × (Int × (Int × Int))))) × (List (Int × Int)) × (List (Int × Int)) × (List (Int × (Int × (Int × (Int × Int))))) × (List (Int × (Int × Int))) × List ByteArray × List Int × (List (Int × ((Int × (List Int)) × (Int × (Int × Int))))) × (List (List (Int × Int))) × List Int × (List (Int × (Int × (Int × (Int × Int))))) × Unit → Option (((List (Int × Int)) × (List (Int × Int)) × (List (Int × (Int × (Int × (Int × Int))))) × (List (Int × (Int × Int))) × List ByteArray × List Int × (List (Int × ((Int × (List Int)) × (Int × (Int × Int))))) × (List (List (Int × Int))) × List Int × Int × Bool × (List (Int × (Int × (Int × (Int × Int)))))) × Int × Int)
  | 0, _ => none
  | k + 1, (b0, b1, b2, b3, b4, b5, b6, b7, b8, b9, b10, b11, b12, b13, b14, b15, b16, b17, b18, b19, b20, b21, b22, b23, b24, b25, b26, b27, ()) =>
    if 0 ≤ (wrap64 (b0 - 1)) then
     if (wrap64 (b0 - 1)) < ((List.length b24 : Nat) : Int) then
      if (List.getD b24 (Int.toNat (wrap64 (b0 - 1))) (0, ((0, ([] : List Int)), (0, (0, 0))))).2.1.1 < ((List.length b7 : Nat) : Int) then
       if 0 ≤ (List.getD b24 (Int.toNat (wrap64 (b0 - 1))) (0, ((0, ([] : List Int)), (0, (0, 0))))).2.1.1 then
        if (List.getD b24 (Int.toNat (wrap64 (b0 - 1))) (0, ((0, ([] : List Int)), (0, (0, 0))))).2.1.1 < ((List.length b7 : Nat) : Int) then (spec_CostOf k (List.getD b7 (Int.toNat (List.getD b24 (Int.toNat (wrap64 (b0 - 1))) (0, ((0, ([] : List Int)), (0, (0, 0))))).2.1.1) (0, 0)).1).bind fun v0 =>
         if b1 < v0 then
          some ((b18, (b19, (b20, (b21, (b22, (b23, (b24, (b25, (b26, (b5, (b6, b27))))))))))), (2, 0))
         else
          (spec_l12Step k ((b18, (b19, (b20, (b21, (b22, (b23, (b24, (b25, (b26, (b5, (b6, b27))))))))))), (b0, (b7, b2)))).bind fun v1 =>
          if v1.1 = true then
           some ((b18, (b19, (b20, (b21, (b22, (v1.2.2.2.2.2.2.2.2.1, (v1.2.2.2.2.2.2.2.2.2.1, (v1.2.2.2.2.2.2.2.2.2.2.1, (v1.2.2.2.2.2.2.2.2.2.2.2.1, (v1.2.2.2.2.2.2.2.2.2.2.2.2.1, (v1.2.2.2.2.2.2.2.2.2.2.2.2.2.1, b27))))))))))), (v1.2.1, v1.2.2.1))
          else
           spec_RunPart_L8 spec_CostOf spec_KernelOk spec_ReadCode spec_l01In spec_l12Copy spec_l12Step k (b0, (wrap64 (b1 - v0)), b2, b3, b4, v1.2.2.2.2.2.2.2.2.2.2.2.2.1, v1.2.2.2.2.2.2.2.2.2.2.2.2.2.1, b7, b8, b9, b10, b11, b12, b13, b14, b15, b16, b17, b18, b19, b20, b21, b22, v1.2.2.2.2.2.2.2.2.1, v1.2.2.2.2.2.2.2.2.2.1, v1.2.2.2.2.2.2.2.2.2.2.1, v1.2.2.2.2.2.2.2.2.2.2.2.1, b27, ()) else none
       else
        none
      else
       if b1 < 1 then
        some ((b18, (b19, (b20, (b21, (b22, (b23, (b24, (b25, (b26, (b5, (b6, b27))))))))))), (2, 0))
       else
        (spec_l12Step k ((b18, (b19, (b20, (b21, (b22, (b23, (b24, (b25, (b26, (b5, (b6, b27))))))))))), (b0, (b7, b2)))).bind fun v2 =>
        if v2.1 = true then
         some ((b18, (b19, (b20, (b21, (b22, (v2.2.2.2.2.2.2.2.2.1, (v2.2.2.2.2.2.2.2.2.2.1, (v2.2.2.2.2.2.2.2.2.2.2.1, (v2.2.2.2.2.2.2.2.2.2.2.2.1, (v2.2.2.2.2.2.2.2.2.2.2.2.2.1, (v2.2.2.2.2.2.2.2.2.2.2.2.2.2.1, b27))))))))))), (v2.2.1, v2.2.2.1))
        else
         spec_RunPart_L8 spec_CostOf spec_KernelOk spec_ReadCode spec_l01In spec_l12Copy spec_l12Step k (b0, (wrap64 (b1 - 1)), b2, b3, b4, v2.2.2.2.2.2.2.2.2.2.2.2.2.1, v2.2.2.2.2.2.2.2.2.2.2.2.2.2.1, b7, b8, b9, b10, b11, b12, b13, b14, b15, b16, b17, b18, b19, b20, b21, b22, v2.2.2.2.2.2.2.2.2.1, v2.2.2.2.2.2.2.2.2.2.1, v2.2.2.2.2.2.2.2.2.2.2.1, v2.2.2.2.2.2.2.2.2.2.2.2.1, b27, ())
     else
      none
    else
     none
def spec_RunPart_ (spec_CostOf : Nat → Int → Option (Int)) (spec_KernelOk : Nat → ((List (Int × Int)) × (List (Int × Int)) × (List (Int × (Int × (Int × (Int × Int))))) × (List (Int × (Int × Int))) × List ByteArray × List Int × (List (Int × ((Int × (List Int)) × (Int × (Int × Int))))) × (List (List (Int × Int))) × List Int × Int × Bool × (List (Int × (Int × (Int × (Int × Int)))))) → Option (Bool)) (spec_ReadCode : Nat → ByteArray → Option (((List (Int × Int))) × Bool)) (spec_l01In : Nat → Int × Int × Int → Option (Bool)) (spec_l12Copy : Nat → ((List (Int × Int)) × (List (Int × Int)) × (List (Int × (Int × (Int × (Int × Int))))) × (List (Int × (Int × Int))) × List ByteArray × List Int × (List (Int × ((Int × (List Int)) × (Int × (Int × Int))))) × (List (List (Int × Int))) × List Int × Int × Bool × (List (Int × (Int × (Int × (Int × Int)))))) → Option (((List (Int × Int)) × (List (Int × Int)) × (List (Int × (Int × (Int × (Int × Int))))) × (List (Int × (Int × Int))) × List ByteArray × List Int × (List (Int × ((Int × (List Int)) × (Int × (Int × Int))))) × (List (List (Int × Int))) × List Int × Int × Bool × (List (Int × (Int × (Int × (Int × Int)))))))) (spec_l12Step : Nat → ((List (Int × Int)) × (List (Int × Int)) × (List (Int × (Int × (Int × (Int × Int))))) × (List (Int × (Int × Int))) × List ByteArray × List Int × (List (Int × ((Int × (List Int)) × (Int × (Int × Int))))) × (List (List (Int × Int))) × List Int × Int × Bool × (List (Int × (Int × (Int × (Int × Int)))))) × Int × ((List (Int × Int))) × List Int → Option (Bool × Int × Int × (Unit × Unit × Unit × Unit × Unit × List Int × (List (Int × ((Int × (List Int)) × (Int × (Int × Int))))) × (List (List (Int × Int))) × List Int × Int × Bool × Unit))) (k : Nat) : ((List (Int × Int)) × (List (Int × Int)) × (List (Int × (Int × (Int × (Int × Int))))) × (List (Int × (Int × Int))) × List ByteArray × List Int × (List (Int × ((Int × (List Int)) × (Int × (Int × Int))))) × (List (List (Int × Int))) × List Int × Int × Bool × (List (Int × (Int × (Int × (Int × Int)))))) × Int × Int × List Int → Option (((List (Int × Int)) × (List (Int × Int)) × (List (Int × (Int × (Int × (Int × Int))))) × (List (Int × (Int × Int))) × List ByteArray × List Int × (List (Int × ((Int × (List Int)) × (Int × (Int × Int))))) × (List (List (Int × Int))) × List Int × Int × Bool × (List (Int × (Int × (Int × (Int × Int)))))) × Int × Int)
  | ((a0, a1, a2, a3, a4, a5, a6, a7, a8, a9, a10, a11), a12, a13, a14) =>
  (spec_l12Copy k (a0, (a1, (a2, (a3, (a4, (a5, (a6, (a7, (a8, (a9, (a10, a11)))))))))))).bind fun v0 =>
  (spec_KernelOk k (a0, (a1, (a2, (a3, (a4, (a5, (a6, (a7, (a8, (a9, (a10, a11)))))))))))).bind fun v1 =>
  if v1 = true then
   (spec_l01In k (a12, (1, ((List.length a6 : Nat) : Int)))).bind fun v2 =>
   if v2 = true then
    if 0 ≤ (wrap64 (a12 - 1)) then
     if (wrap64 (a12 - 1)) < ((List.length a4 : Nat) : Int) then (spec_ReadCode k (List.getD a4 (Int.toNat (wrap64 (a12 - 1))) (⟨#[]⟩ : ByteArray))).bind fun v3 =>
      if 1000 < a13 then
       spec_RunPart_L8 spec_CostOf spec_KernelOk spec_ReadCode spec_l01In spec_l12Copy spec_l12Step k (a12, 1000, a14, 0, false, v0.2.2.2.2.2.2.2.2.2.1, v0.2.2.2.2.2.2.2.2.2.2.1, v3.1, [], [], [], [], [], [], [], [], [], [], v0.1, v0.2.1, v0.2.2.1, v0.2.2.2.1, v0.2.2.2.2.1, v0.2.2.2.2.2.1, v0.2.2.2.2.2.2.1, v0.2.2.2.2.2.2.2.1, v0.2.2.2.2.2.2.2.2.1, v0.2.2.2.2.2.2.2.2.2.2.2, ())
      else
       spec_RunPart_L8 spec_CostOf spec_KernelOk spec_ReadCode spec_l01In spec_l12Copy spec_l12Step k (a12, a13, a14, 0, false, v0.2.2.2.2.2.2.2.2.2.1, v0.2.2.2.2.2.2.2.2.2.2.1, v3.1, [], [], [], [], [], [], [], [], [], [], v0.1, v0.2.1, v0.2.2.1, v0.2.2.2.1, v0.2.2.2.2.1, v0.2.2.2.2.2.1, v0.2.2.2.2.2.2.1, v0.2.2.2.2.2.2.2.1, v0.2.2.2.2.2.2.2.2.1, v0.2.2.2.2.2.2.2.2.2.2.2, ()) else none
    else
     none
   else
    some (v0, (1, 6))
  else
   some (v0, (1, 6))
noncomputable def g_spec_RunPart : ((List (Int × Int)) × (List (Int × Int)) × (List (Int × (Int × (Int × (Int × Int))))) × (List (Int × (Int × Int))) × List ByteArray × List Int × (List (Int × ((Int × (List Int)) × (Int × (Int × Int))))) × (List (List (Int × Int))) × List Int × Int × Bool × (List (Int × (Int × (Int × (Int × Int)))))) × Int × Int × List Int → Option (((List (Int × Int)) × (List (Int × Int)) × (List (Int × (Int × (Int × (Int × Int))))) × (List (Int × (Int × Int))) × List ByteArray × List Int × (List (Int × ((Int × (List Int)) × (Int × (Int × Int))))) × (List (List (Int × Int))) × List Int × Int × Bool × (List (Int × (Int × (Int × (Int × Int)))))) × Int × Int) := evG (spec_RunPart_ (fun _ => g_spec_CostOf) (fun _ => g_spec_KernelOk) (fun _ => g_spec_ReadCode) (fun _ => g_spec_l01In) (fun _ => g_spec_l12Copy) (fun _ => g_spec_l12Step))
theorem e_spec_RunPart : ∀ x b, g_spec_RunPart x = some b → ∃ k, spec_RunPart_ (fun _ => g_spec_CostOf) (fun _ => g_spec_KernelOk) (fun _ => g_spec_ReadCode) (fun _ => g_spec_l01In) (fun _ => g_spec_l12Copy) (fun _ => g_spec_l12Step) k x = some b := evG_e _
/- spec_TurnOf -/
def con_spec_TurnOf (f : Nat → ((List (Int × Int)) × (List (Int × Int)) × (List (Int × (Int × (Int × (Int × Int))))) × (List (Int × (Int × Int))) × List ByteArray × List Int × (List (Int × ((Int × (List Int)) × (Int × (Int × Int))))) × (List (List (Int × Int))) × List Int × Int × Bool × (List (Int × (Int × (Int × (Int × Int)))))) × List Int → Option (((List (Int × Int)) × (List (Int × Int)) × (List (Int × (Int × (Int × (Int × Int))))) × (List (Int × (Int × Int))) × List ByteArray × List Int × (List (Int × ((Int × (List Int)) × (Int × (Int × Int))))) × (List (List (Int × Int))) × List Int × Int × Bool × (List (Int × (Int × (Int × (Int × Int)))))))) : Con := ⟨[.agg [.sl (.pair (.int .i64) (.int .i64)), .sl (.pair (.int .i64) (.int .i64)), .sl (.pair (.int .i64) (.pair (.int .i64) (.pair (.int .i64) (.pair (.int .i64) (.int .i64))))), .sl (.pair (.int .i64) (.pair (.int .i64) (.int .i64))), .sl .str, .sl (.int .i64), .nsl (.pair (.f (.int .i64)) (.pair (.pair (.f (.int .i64)) (.sl (.int .i64))) (.pair (.f (.int .i64)) (.pair (.f (.int .i64)) (.f (.int .i64)))))), .nsl (.sl (.pair (.int .i64) (.int .i64))), .sl (.int .i64), .int .i64, .bool, .sl (.pair (.int .i64) (.pair (.int .i64) (.pair (.int .i64) (.pair (.int .i64) (.int .i64)))))], .c (.sl (.int .i64))], 1, [.v true [.own (.pair (.int .i64) (.int .i64)) 218, .own (.pair (.int .i64) (.int .i64)) 102, .own (.pair (.int .i64) (.pair (.int .i64) (.pair (.int .i64) (.pair (.int .i64) (.int .i64))))) 247, .own (.pair (.int .i64) (.pair (.int .i64) (.int .i64))) 259, .own .str 9, .own (.int .i64) 3, .nown (.pair (.f (.int .i64)) (.pair (.pair (.f (.int .i64)) (.sl (.int .i64))) (.pair (.f (.int .i64)) (.pair (.f (.int .i64)) (.f (.int .i64)))))) 147, .nown (.sl (.pair (.int .i64) (.int .i64))) 227, .own (.int .i64) 3, .int .i64, .bool, .own (.pair (.int .i64) (.pair (.int .i64) (.pair (.int .i64) (.pair (.int .i64) (.int .i64))))) 172]], f⟩
def spec_TurnOf_ (spec_ActFor : Nat → ((List (Int × (Int × Int)))) × Int × Int × Int → Option (Int)) (spec_KernelOk : Nat → ((List (Int × Int)) × (List (Int × Int)) × (List (Int × (Int × (Int × (Int × Int))))) × (List (Int × (Int × Int))) × List ByteArray × List Int × (List (Int × ((Int × (List Int)) × (Int × (Int × Int))))) × (List (List (Int × Int))) × List Int × Int × Bool × (List (Int × (Int × (Int × (Int × Int)))))) → Option (Bool)) (spec_RunPart : Nat → ((List (Int × Int)) × (List (Int × Int)) × (List (Int × (Int × (Int × (Int × Int))))) × (List (Int × (Int × Int))) × List ByteArray × List Int × (List (Int × ((Int × (List Int)) × (Int × (Int × Int))))) × (List (List (Int × Int))) × List Int × Int × Bool × (List (Int × (Int × (Int × (Int × Int)))))) × Int × Int × List Int → Option (((List (Int × Int)) × (List (Int × Int)) × (List (Int × (Int × (Int × (Int × Int))))) × (List (Int × (Int × Int))) × List ByteArray × List Int × (List (Int × ((Int × (List Int)) × (Int × (Int × Int))))) × (List (List (Int × Int))) × List Int × Int × Bool × (List (Int × (Int × (Int × (Int × Int)))))) × Int × Int)) (spec_WindowAt : Nat → ((List (Int × Int))) × Int → Option ((Int × Int))) (spec_l12Act : Nat → ((List (Int × Int)) × (List (Int × Int)) × (List (Int × (Int × (Int × (Int × Int))))) × (List (Int × (Int × Int))) × List ByteArray × List Int × (List (Int × ((Int × (List Int)) × (Int × (Int × Int))))) × (List (List (Int × Int))) × List Int × Int × Bool × (List (Int × (Int × (Int × (Int × Int)))))) × Int × Int → Option ((Unit × Unit × Unit × Unit × Unit × List Int × (List (Int × ((Int × (List Int)) × (Int × (Int × Int))))) × (List (List (Int × Int))) × List Int × Int × Bool × Unit))) (spec_l12Copy : Nat → ((List (Int × Int)) × (List (Int × Int)) × (List (Int × (Int × (Int × (Int × Int))))) × (List (Int × (Int × Int))) × List ByteArray × List Int × (List (Int × ((Int × (List Int)) × (Int × (Int × Int))))) × (List (List (Int × Int))) × List Int × Int × Bool × (List (Int × (Int × (Int × (Int × Int)))))) → Option (((List (Int × Int)) × (List (Int × Int)) × (List (Int × (Int × (Int × (Int × Int))))) × (List (Int × (Int × Int))) × List ByteArray × List Int × (List (Int × ((Int × (List Int)) × (Int × (Int × Int))))) × (List (List (Int × Int))) × List Int × Int × Bool × (List (Int × (Int × (Int × (Int × Int)))))))) (k : Nat) : ((List (Int × Int)) × (List (Int × Int)) × (List (Int × (Int × (Int × (Int × Int))))) × (List (Int × (Int × Int))) × List ByteArray × List Int × (List (Int × ((Int × (List Int)) × (Int × (Int × Int))))) × (List (List (Int × Int))) × List Int × Int × Bool × (List (Int × (Int × (Int × (Int × Int)))))) × List Int → Option (((List (Int × Int)) × (List (Int × Int)) × (List (Int × (Int × (Int × (Int × Int))))) × (List (Int × (Int × Int))) × List ByteArray × List Int × (List (Int × ((Int × (List Int)) × (Int × (Int × Int))))) × (List (List (Int × Int))) × List Int × Int × Bool × (List (Int × (Int × (Int × (Int × Int)))))))
  | ((a0, a1, a2, a3, a4, a5, a6, a7, a8, a9, a10, a11), a12) =>
  (spec_KernelOk k (a0, (a1, (a2, (a3, (a4, (a5, (a6, (a7, (a8, (a9, (a10, a11)))))))))))).bind fun v0 =>
  if v0 = true then
   if a9 = 1000000000 then
    (spec_l12Copy k (a0, (a1, (a2, (a3, (a4, (a5, (a6, (a7, (a8, (a9, (a10, a11)))))))))))).bind fun v1 =>
    some v1
   else
    (spec_WindowAt k (a1, a9)).bind fun v2 =>
    (spec_l12Copy k (a0, (a1, (a2, (a3, (a4, (a5, (a6, (a7, (a8, (a9, (a10, a11)))))))))))).bind fun v3 =>
    if a10 = true then
     some (v3.1, (v3.2.1, (v3.2.2.1, (v3.2.2.2.1, (v3.2.2.2.2.1, (v3.2.2.2.2.2.1, (v3.2.2.2.2.2.2.1, (v3.2.2.2.2.2.2.2.1, (v3.2.2.2.2.2.2.2.2.1, ((wrap64 (a9 + 1)), v3.2.2.2.2.2.2.2.2.2.2))))))))))
    else
     if 0 ≤ (wrap64 (v2.1 - 1)) then
      if (wrap64 (v2.1 - 1)) < ((List.length v3.2.2.2.2.2.2.1 : Nat) : Int) then
       if (List.getD v3.2.2.2.2.2.2.1 (Int.toNat (wrap64 (v2.1 - 1))) (0, ((0, ([] : List Int)), (0, (0, 0))))).1 = 1 then
        some (v3.1, (v3.2.1, (v3.2.2.1, (v3.2.2.2.1, (v3.2.2.2.2.1, (v3.2.2.2.2.2.1, (v3.2.2.2.2.2.2.1, (v3.2.2.2.2.2.2.2.1, (v3.2.2.2.2.2.2.2.2.1, ((wrap64 (a9 + 1)), v3.2.2.2.2.2.2.2.2.2.2))))))))))
       else
        (spec_RunPart k (v3, (v2.1, (v2.2, a12)))).bind fun v4 =>
        if v4.2.1 = 0 then
         some (v4.1.1, (v4.1.2.1, (v4.1.2.2.1, (v4.1.2.2.2.1, (v4.1.2.2.2.2.1, (v4.1.2.2.2.2.2.1, (v4.1.2.2.2.2.2.2.1, (v4.1.2.2.2.2.2.2.2.1, (v4.1.2.2.2.2.2.2.2.2.1, ((wrap64 (a9 + 1)), v4.1.2.2.2.2.2.2.2.2.2.2))))))))))
        else
         if v4.2.1 = 2 then
          if 0 ≤ (wrap64 (v2.1 - 1)) then
           if (wrap64 (v2.1 - 1)) < ((List.length v4.1.2.2.2.2.2.2.1 : Nat) : Int) then
            if 0 ≤ (wrap64 (v2.1 - 1)) then
             if (wrap64 (v2.1 - 1)) < ((List.length v4.1.2.2.2.2.2.2.1 : Nat) : Int) then
              if 0 ≤ (wrap64 (v2.1 - 1)) then
               if (wrap64 (v2.1 - 1)) < ((List.length (List.set v4.1.2.2.2.2.2.2.1 (Int.toNat (wrap64 (v2.1 - 1))) ((List.getD v4.1.2.2.2.2.2.2.1 (Int.toNat (wrap64 (v2.1 - 1))) (0, ((0, ([] : List Int)), (0, (0, 0))))).1, ((List.getD v4.1.2.2.2.2.2.2.1 (Int.toNat (wrap64 (v2.1 - 1))) (0, ((0, ([] : List Int)), (0, (0, 0))))).2.1, ((List.getD v4.1.2.2.2.2.2.2.1 (Int.toNat (wrap64 (v2.1 - 1))) (0, ((0, ([] : List Int)), (0, (0, 0))))).2.2.1, ((List.getD v4.1.2.2.2.2.2.2.1 (Int.toNat (wrap64 (v2.1 - 1))) (0, ((0, ([] : List Int)), (0, (0, 0))))).2.2.2.1, (wrap64 ((List.getD v4.1.2.2.2.2.2.2.1 (Int.toNat (wrap64 (v2.1 - 1))) (0, ((0, ([] : List Int)), (0, (0, 0))))).2.2.2.2 + 1))))))) : Nat) : Int) then (spec_ActFor k (a3, (v2.1, (v4.2.1, (List.getD (List.set v4.1.2.2.2.2.2.2.1 (Int.toNat (wrap64 (v2.1 - 1))) ((List.getD v4.1.2.2.2.2.2.2.1 (Int.toNat (wrap64 (v2.1 - 1))) (0, ((0, ([] : List Int)), (0, (0, 0))))).1, ((List.getD v4.1.2.2.2.2.2.2.1 (Int.toNat (wrap64 (v2.1 - 1))) (0, ((0, ([] : List Int)), (0, (0, 0))))).2.1, ((List.getD v4.1.2.2.2.2.2.2.1 (Int.toNat (wrap64 (v2.1 - 1))) (0, ((0, ([] : List Int)), (0, (0, 0))))).2.2.1, ((List.getD v4.1.2.2.2.2.2.2.1 (Int.toNat (wrap64 (v2.1 - 1))) (0, ((0, ([] : List Int)), (0, (0, 0))))).2.2.2.1, (wrap64 ((List.getD v4.1.2.2.2.2.2.2.1 (Int.toNat (wrap64 (v2.1 - 1))) (0, ((0, ([] : List Int)), (0, (0, 0))))).2.2.2.2 + 1))))))) (Int.toNat (wrap64 (v2.1 - 1))) (0, ((0, ([] : List Int)), (0, (0, 0))))).2.2.1)))).bind fun v5 =>
                if (((List.length v4.1.2.2.2.2.2.2.2.2.2.2.2 + List.length [(a9, (v2.1, (v4.2.1, (v4.2.2, v5))))] : Nat) : Int) * ((40 : Nat) : Int)) ≤ 140737488355328 then
                 if 40 < ((List.length (v4.1.2.2.2.2.2.2.2.2.2.2.2 ++ [(a9, (v2.1, (v4.2.1, (v4.2.2, v5))))]) : Nat) : Int) then
                  if 0 ≤ 1 then
                   if 1 ≤ ((List.length (v4.1.2.2.2.2.2.2.2.2.2.2.2 ++ [(a9, (v2.1, (v4.2.1, (v4.2.2, v5))))]) : Nat) : Int) then
                    if (((List.length ([] : List (Int × (Int × (Int × (Int × Int))))) + List.length (List.drop (Int.toNat 1) (List.take (Int.toNat ((List.length (v4.1.2.2.2.2.2.2.2.2.2.2.2 ++ [(a9, (v2.1, (v4.2.1, (v4.2.2, v5))))]) : Nat) : Int)) (v4.1.2.2.2.2.2.2.2.2.2.2.2 ++ [(a9, (v2.1, (v4.2.1, (v4.2.2, v5))))]))) : Nat) : Int) * ((40 : Nat) : Int)) ≤ 140737488355328 then (spec_l12Act k ((v4.1.1, (v4.1.2.1, (v4.1.2.2.1, (v4.1.2.2.2.1, (v4.1.2.2.2.2.1, (v4.1.2.2.2.2.2.1, ((List.set v4.1.2.2.2.2.2.2.1 (Int.toNat (wrap64 (v2.1 - 1))) ((List.getD v4.1.2.2.2.2.2.2.1 (Int.toNat (wrap64 (v2.1 - 1))) (0, ((0, ([] : List Int)), (0, (0, 0))))).1, ((List.getD v4.1.2.2.2.2.2.2.1 (Int.toNat (wrap64 (v2.1 - 1))) (0, ((0, ([] : List Int)), (0, (0, 0))))).2.1, ((List.getD v4.1.2.2.2.2.2.2.1 (Int.toNat (wrap64 (v2.1 - 1))) (0, ((0, ([] : List Int)), (0, (0, 0))))).2.2.1, ((List.getD v4.1.2.2.2.2.2.2.1 (Int.toNat (wrap64 (v2.1 - 1))) (0, ((0, ([] : List Int)), (0, (0, 0))))).2.2.2.1, (wrap64 ((List.getD v4.1.2.2.2.2.2.2.1 (Int.toNat (wrap64 (v2.1 - 1))) (0, ((0, ([] : List Int)), (0, (0, 0))))).2.2.2.2 + 1))))))), (v4.1.2.2.2.2.2.2.2.1, (v4.1.2.2.2.2.2.2.2.2.1, ((wrap64 (a9 + 1)), (v4.1.2.2.2.2.2.2.2.2.2.2.1, (([] : List (Int × (Int × (Int × (Int × Int))))) ++ (List.drop (Int.toNat 1) (List.take (Int.toNat ((List.length (v4.1.2.2.2.2.2.2.2.2.2.2.2 ++ [(a9, (v2.1, (v4.2.1, (v4.2.2, v5))))]) : Nat) : Int)) (v4.1.2.2.2.2.2.2.2.2.2.2.2 ++ [(a9, (v2.1, (v4.2.1, (v4.2.2, v5))))]))))))))))))))), (v2.1, v5))).bind fun v6 =>
                     some (v4.1.1, (v4.1.2.1, (v4.1.2.2.1, (v4.1.2.2.2.1, (v4.1.2.2.2.2.1, (v6.2.2.2.2.2.1, (v6.2.2.2.2.2.2.1, (v6.2.2.2.2.2.2.2.1, (v6.2.2.2.2.2.2.2.2.1, (v6.2.2.2.2.2.2.2.2.2.1, (v6.2.2.2.2.2.2.2.2.2.2.1, (([] : List (Int × (Int × (Int × (Int × Int))))) ++ (List.drop (Int.toNat 1) (List.take (Int.toNat ((List.length (v4.1.2.2.2.2.2.2.2.2.2.2.2 ++ [(a9, (v2.1, (v4.2.1, (v4.2.2, v5))))]) : Nat) : Int)) (v4.1.2.2.2.2.2.2.2.2.2.2.2 ++ [(a9, (v2.1, (v4.2.1, (v4.2.2, v5))))]))))))))))))))) else none
                   else
                    none
                  else
                   none
                 else
                  (spec_l12Act k ((v4.1.1, (v4.1.2.1, (v4.1.2.2.1, (v4.1.2.2.2.1, (v4.1.2.2.2.2.1, (v4.1.2.2.2.2.2.1, ((List.set v4.1.2.2.2.2.2.2.1 (Int.toNat (wrap64 (v2.1 - 1))) ((List.getD v4.1.2.2.2.2.2.2.1 (Int.toNat (wrap64 (v2.1 - 1))) (0, ((0, ([] : List Int)), (0, (0, 0))))).1, ((List.getD v4.1.2.2.2.2.2.2.1 (Int.toNat (wrap64 (v2.1 - 1))) (0, ((0, ([] : List Int)), (0, (0, 0))))).2.1, ((List.getD v4.1.2.2.2.2.2.2.1 (Int.toNat (wrap64 (v2.1 - 1))) (0, ((0, ([] : List Int)), (0, (0, 0))))).2.2.1, ((List.getD v4.1.2.2.2.2.2.2.1 (Int.toNat (wrap64 (v2.1 - 1))) (0, ((0, ([] : List Int)), (0, (0, 0))))).2.2.2.1, (wrap64 ((List.getD v4.1.2.2.2.2.2.2.1 (Int.toNat (wrap64 (v2.1 - 1))) (0, ((0, ([] : List Int)), (0, (0, 0))))).2.2.2.2 + 1))))))), (v4.1.2.2.2.2.2.2.2.1, (v4.1.2.2.2.2.2.2.2.2.1, ((wrap64 (a9 + 1)), (v4.1.2.2.2.2.2.2.2.2.2.2.1, (v4.1.2.2.2.2.2.2.2.2.2.2.2 ++ [(a9, (v2.1, (v4.2.1, (v4.2.2, v5))))])))))))))))), (v2.1, v5))).bind fun v7 =>
                  some (v4.1.1, (v4.1.2.1, (v4.1.2.2.1, (v4.1.2.2.2.1, (v4.1.2.2.2.2.1, (v7.2.2.2.2.2.1, (v7.2.2.2.2.2.2.1, (v7.2.2.2.2.2.2.2.1, (v7.2.2.2.2.2.2.2.2.1, (v7.2.2.2.2.2.2.2.2.2.1, (v7.2.2.2.2.2.2.2.2.2.2.1, (v4.1.2.2.2.2.2.2.2.2.2.2.2 ++ [(a9, (v2.1, (v4.2.1, (v4.2.2, v5))))]))))))))))))
                else
                 none else none
              else
               none
             else
              none
            else
             none
           else
            none
          else
           none
         else
          if 0 ≤ (wrap64 (v2.1 - 1)) then
           if (wrap64 (v2.1 - 1)) < ((List.length v4.1.2.2.2.2.2.2.1 : Nat) : Int) then (spec_ActFor k (a3, (v2.1, (v4.2.1, (List.getD v4.1.2.2.2.2.2.2.1 (Int.toNat (wrap64 (v2.1 - 1))) (0, ((0, ([] : List Int)), (0, (0, 0))))).2.2.1)))).bind fun v8 =>
            if (((List.length v4.1.2.2.2.2.2.2.2.2.2.2.2 + List.length [(a9, (v2.1, (v4.2.1, (v4.2.2, v8))))] : Nat) : Int) * ((40 : Nat) : Int)) ≤ 140737488355328 then
             if 40 < ((List.length (v4.1.2.2.2.2.2.2.2.2.2.2.2 ++ [(a9, (v2.1, (v4.2.1, (v4.2.2, v8))))]) : Nat) : Int) then
              if 0 ≤ 1 then
               if 1 ≤ ((List.length (v4.1.2.2.2.2.2.2.2.2.2.2.2 ++ [(a9, (v2.1, (v4.2.1, (v4.2.2, v8))))]) : Nat) : Int) then
                if (((List.length ([] : List (Int × (Int × (Int × (Int × Int))))) + List.length (List.drop (Int.toNat 1) (List.take (Int.toNat ((List.length (v4.1.2.2.2.2.2.2.2.2.2.2.2 ++ [(a9, (v2.1, (v4.2.1, (v4.2.2, v8))))]) : Nat) : Int)) (v4.1.2.2.2.2.2.2.2.2.2.2.2 ++ [(a9, (v2.1, (v4.2.1, (v4.2.2, v8))))]))) : Nat) : Int) * ((40 : Nat) : Int)) ≤ 140737488355328 then (spec_l12Act k ((v4.1.1, (v4.1.2.1, (v4.1.2.2.1, (v4.1.2.2.2.1, (v4.1.2.2.2.2.1, (v4.1.2.2.2.2.2.1, (v4.1.2.2.2.2.2.2.1, (v4.1.2.2.2.2.2.2.2.1, (v4.1.2.2.2.2.2.2.2.2.1, ((wrap64 (a9 + 1)), (v4.1.2.2.2.2.2.2.2.2.2.2.1, (([] : List (Int × (Int × (Int × (Int × Int))))) ++ (List.drop (Int.toNat 1) (List.take (Int.toNat ((List.length (v4.1.2.2.2.2.2.2.2.2.2.2.2 ++ [(a9, (v2.1, (v4.2.1, (v4.2.2, v8))))]) : Nat) : Int)) (v4.1.2.2.2.2.2.2.2.2.2.2.2 ++ [(a9, (v2.1, (v4.2.1, (v4.2.2, v8))))]))))))))))))))), (v2.1, v8))).bind fun v9 =>
                 some (v4.1.1, (v4.1.2.1, (v4.1.2.2.1, (v4.1.2.2.2.1, (v4.1.2.2.2.2.1, (v9.2.2.2.2.2.1, (v9.2.2.2.2.2.2.1, (v9.2.2.2.2.2.2.2.1, (v9.2.2.2.2.2.2.2.2.1, (v9.2.2.2.2.2.2.2.2.2.1, (v9.2.2.2.2.2.2.2.2.2.2.1, (([] : List (Int × (Int × (Int × (Int × Int))))) ++ (List.drop (Int.toNat 1) (List.take (Int.toNat ((List.length (v4.1.2.2.2.2.2.2.2.2.2.2.2 ++ [(a9, (v2.1, (v4.2.1, (v4.2.2, v8))))]) : Nat) : Int)) (v4.1.2.2.2.2.2.2.2.2.2.2.2 ++ [(a9, (v2.1, (v4.2.1, (v4.2.2, v8))))]))))))))))))))) else none
               else
                none
              else
               none
             else
              (spec_l12Act k ((v4.1.1, (v4.1.2.1, (v4.1.2.2.1, (v4.1.2.2.2.1, (v4.1.2.2.2.2.1, (v4.1.2.2.2.2.2.1, (v4.1.2.2.2.2.2.2.1, (v4.1.2.2.2.2.2.2.2.1, (v4.1.2.2.2.2.2.2.2.2.1, ((wrap64 (a9 + 1)), (v4.1.2.2.2.2.2.2.2.2.2.2.1, (v4.1.2.2.2.2.2.2.2.2.2.2.2 ++ [(a9, (v2.1, (v4.2.1, (v4.2.2, v8))))])))))))))))), (v2.1, v8))).bind fun v10 =>
              some (v4.1.1, (v4.1.2.1, (v4.1.2.2.1, (v4.1.2.2.2.1, (v4.1.2.2.2.2.1, (v10.2.2.2.2.2.1, (v10.2.2.2.2.2.2.1, (v10.2.2.2.2.2.2.2.1, (v10.2.2.2.2.2.2.2.2.1, (v10.2.2.2.2.2.2.2.2.2.1, (v10.2.2.2.2.2.2.2.2.2.2.1, (v4.1.2.2.2.2.2.2.2.2.2.2.2 ++ [(a9, (v2.1, (v4.2.1, (v4.2.2, v8))))]))))))))))))
            else
             none else none
          else
           none
      else
       none
     else
      none
  else
   (spec_l12Copy k (a0, (a1, (a2, (a3, (a4, (a5, (a6, (a7, (a8, (a9, (a10, a11)))))))))))).bind fun v11 =>
   some v11
noncomputable def g_spec_TurnOf : ((List (Int × Int)) × (List (Int × Int)) × (List (Int × (Int × (Int × (Int × Int))))) × (List (Int × (Int × Int))) × List ByteArray × List Int × (List (Int × ((Int × (List Int)) × (Int × (Int × Int))))) × (List (List (Int × Int))) × List Int × Int × Bool × (List (Int × (Int × (Int × (Int × Int)))))) × List Int → Option (((List (Int × Int)) × (List (Int × Int)) × (List (Int × (Int × (Int × (Int × Int))))) × (List (Int × (Int × Int))) × List ByteArray × List Int × (List (Int × ((Int × (List Int)) × (Int × (Int × Int))))) × (List (List (Int × Int))) × List Int × Int × Bool × (List (Int × (Int × (Int × (Int × Int))))))) := spec_TurnOf_ (fun _ => g_spec_ActFor) (fun _ => g_spec_KernelOk) (fun _ => g_spec_RunPart) (fun _ => g_spec_WindowAt) (fun _ => g_spec_l12Act) (fun _ => g_spec_l12Copy) 0
theorem e_spec_TurnOf : ∀ x b, g_spec_TurnOf x = some b → ∃ k, spec_TurnOf_ (fun _ => g_spec_ActFor) (fun _ => g_spec_KernelOk) (fun _ => g_spec_RunPart) (fun _ => g_spec_WindowAt) (fun _ => g_spec_l12Act) (fun _ => g_spec_l12Copy) k x = some b := fun x b h => ⟨0, h⟩
/- spec_l01Byte -/
def con_spec_l01Byte (f : Nat → (List Int × Int × Int) → Option (Int × (Unit × Int × Int))) : Con := ⟨[.ptr [.sl (.int .u8), .int .i64, .int .i64] 179], 1, [.v false [.int .i64], .box [.keep, .int .i64, .int .i64] 179], f⟩
def spec_l01Byte_ (k : Nat) : (List Int × Int × Int) → Option (Int × (Unit × Int × Int))
  | (a0, a1, a2) =>
  if 0 ≤ 33 then
   if 0 ≤ 45 then
    if a1 < ((List.length a0 : Nat) : Int) then
     if 0 ≤ a1 then
      if a1 < ((List.length a0 : Nat) : Int) then some ((iand .i64 (wrap64 ((iand .i64 (ixor .i64 (Int.fdiv (wrap64 ((wrap64 (a2 * 6364136223846793005)) + 1442695040888963407)) (2 ^ (min (Int.toNat 33) (IntKind.bits .i64)))) (Int.fdiv (wrap64 ((wrap64 (a2 * 6364136223846793005)) + 1442695040888963407)) (2 ^ (min (Int.toNat 45) (IntKind.bits .i64))))) 255) + (wrap64 (List.getD a0 (Int.toNat a1) 0)))) 255), ((), ((wrap64 (a1 + 1)), (wrap64 ((wrap64 (a2 * 6364136223846793005)) + 1442695040888963407))))) else none
     else
      none
    else
     some ((iand .i64 (ixor .i64 (Int.fdiv (wrap64 ((wrap64 (a2 * 6364136223846793005)) + 1442695040888963407)) (2 ^ (min (Int.toNat 33) (IntKind.bits .i64)))) (Int.fdiv (wrap64 ((wrap64 (a2 * 6364136223846793005)) + 1442695040888963407)) (2 ^ (min (Int.toNat 45) (IntKind.bits .i64))))) 255), ((), (a1, (wrap64 ((wrap64 (a2 * 6364136223846793005)) + 1442695040888963407)))))
   else
    none
  else
   none
noncomputable def g_spec_l01Byte : (List Int × Int × Int) → Option (Int × (Unit × Int × Int)) := spec_l01Byte_  0
theorem e_spec_l01Byte : ∀ x b, g_spec_l01Byte x = some b → ∃ k, spec_l01Byte_  k x = some b := fun x b h => ⟨0, h⟩
/- spec_l01Below -/
def con_spec_l01Below (f : Nat → (List Int × Int × Int) × Int → Option (Int × (Unit × Int × Int))) : Con := ⟨[.ptr [.sl (.int .u8), .int .i64, .int .i64] 179, .c (.int .i64)], 1, [.v false [.int .i64], .box [.keep, .int .i64, .int .i64] 179], f⟩
def spec_l01Below_ (spec_l01Byte : Nat → (List Int × Int × Int) → Option (Int × (Unit × Int × Int))) (k : Nat) : (List Int × Int × Int) × Int → Option (Int × (Unit × Int × Int))
  | ((a0, a1, a2), a3) =>
  if a3 ≤ 0 then
   some (0, ((), (a1, a2)))
  else
   if a3 ≤ 256 then
    (spec_l01Byte k (a0, (a1, a2))).bind fun v0 =>
    if a3 = 0 then
     none
    else
     some ((Int.tmod v0.1 a3), ((), v0.2.2))
   else
    (spec_l01Byte k (a0, (a1, a2))).bind fun v1 =>
    (spec_l01Byte k (a0, v1.2.2)).bind fun v2 =>
    (spec_l01Byte k (a0, v2.2.2)).bind fun v3 =>
    (spec_l01Byte k (a0, v3.2.2)).bind fun v4 =>
    if a3 = 0 then
     none
    else
     some ((Int.tmod (wrap64 ((wrap64 ((wrap64 ((wrap64 (v1.1 * 16777216)) + (wrap64 (v2.1 * 65536)))) + (wrap64 (v3.1 * 256)))) + v4.1)) a3), ((), v4.2.2))
noncomputable def g_spec_l01Below : (List Int × Int × Int) × Int → Option (Int × (Unit × Int × Int)) := spec_l01Below_ (fun _ => g_spec_l01Byte) 0
theorem e_spec_l01Below : ∀ x b, g_spec_l01Below x = some b → ∃ k, spec_l01Below_ (fun _ => g_spec_l01Byte) k x = some b := fun x b h => ⟨0, h⟩
/- spec_l01Once -/
def con_spec_l01Once (f : Nat → (List Int × Int × Int) × Int → Option (Bool × (Unit × Int × Int))) : Con := ⟨[.ptr [.sl (.int .u8), .int .i64, .int .i64] 179, .c (.int .i64)], 1, [.v false [.bool], .box [.keep, .int .i64, .int .i64] 179], f⟩
def spec_l01Once_ (spec_l01Below : Nat → (List Int × Int × Int) × Int → Option (Int × (Unit × Int × Int))) (k : Nat) : (List Int × Int × Int) × Int → Option (Bool × (Unit × Int × Int))
  | ((a0, a1, a2), a3) =>
  (spec_l01Below k ((a0, (a1, a2)), a3)).bind fun v0 =>
  some ((decide (v0.1 = 0)), ((), v0.2.2))
noncomputable def g_spec_l01Once : (List Int × Int × Int) × Int → Option (Bool × (Unit × Int × Int)) := spec_l01Once_ (fun _ => g_spec_l01Below) 0
theorem e_spec_l01Once : ∀ x b, g_spec_l01Once x = some b → ∃ k, spec_l01Once_ (fun _ => g_spec_l01Below) k x = some b := fun x b h => ⟨0, h⟩
/- spec_l01PickInt -/
def con_spec_l01PickInt (f : Nat → (List Int × Int × Int) × List Int → Option (Int × (Unit × Int × Int))) : Con := ⟨[.ptr [.sl (.int .u8), .int .i64, .int .i64] 179, .c (.sl (.int .i64))], 1, [.v false [.int .i64], .box [.keep, .int .i64, .int .i64] 179], f⟩
def spec_l01PickInt_ (spec_l01Below : Nat → (List Int × Int × Int) × Int → Option (Int × (Unit × Int × Int))) (k : Nat) : (List Int × Int × Int) × List Int → Option (Int × (Unit × Int × Int))
  | ((a0, a1, a2), a3) =>
  (spec_l01Below k ((a0, (a1, a2)), ((List.length a3 : Nat) : Int))).bind fun v0 =>
  if 0 ≤ v0.1 then
   if v0.1 < ((List.length a3 : Nat) : Int) then some ((List.getD a3 (Int.toNat v0.1) 0), ((), v0.2.2)) else none
  else
   none
noncomputable def g_spec_l01PickInt : (List Int × Int × Int) × List Int → Option (Int × (Unit × Int × Int)) := spec_l01PickInt_ (fun _ => g_spec_l01Below) 0
theorem e_spec_l01PickInt : ∀ x b, g_spec_l01PickInt x = some b → ∃ k, spec_l01PickInt_ (fun _ => g_spec_l01Below) k x = some b := fun x b h => ⟨0, h⟩
/- spec_l12Ins -/
def con_spec_l12Ins (f : Nat → (List Int × Int × Int) → Option (List Int × (Unit × Int × Int))) : Con := ⟨[.ptr [.sl (.int .u8), .int .i64, .int .i64] 179], 1, [.v false [.own (.int .i64) 3], .box [.keep, .int .i64, .int .i64] 179], f⟩
def spec_l12Ins_L3 (spec_l01Below : Nat → (List Int × Int × Int) × Int → Option (Int × (Unit × Int × Int))) : Nat → Int × Int × Int × List Int × List Int × Unit → Option (List Int × (Unit × Int × Int))
  | 0, _ => none
  | k + 1, (b0, b1, b2, b3, b4, ()) =>
    (spec_l01Below k ((b3, (b1, b2)), 4)).bind fun v0 =>
    if b0 < v0.1 then
     (spec_l01Below k ((b3, v0.2.2), 9)).bind fun v1 =>
     if (((List.length b4 + List.length [v1.1] : Nat) : Int) * ((8 : Nat) : Int)) ≤ 140737488355328 then spec_l12Ins_L3 spec_l01Below k ((wrap64 (b0 + 1)), v1.2.2.1, v1.2.2.2, b3, (b4 ++ [v1.1]), ()) else none
    else
     some (b4, ((), v0.2.2))
def spec_l12Ins_ (spec_l01Below : Nat → (List Int × Int × Int) × Int → Option (Int × (Unit × Int × Int))) (k : Nat) : (List Int × Int × Int) → Option (List Int × (Unit × Int × Int))
  | (a0, a1, a2) =>
  spec_l12Ins_L3 spec_l01Below k (0, a1, a2, a0, ([] : List Int), ())
noncomputable def g_spec_l12Ins : (List Int × Int × Int) → Option (List Int × (Unit × Int × Int)) := evG (spec_l12Ins_ (fun _ => g_spec_l01Below))
theorem e_spec_l12Ins : ∀ x b, g_spec_l12Ins x = some b → ∃ k, spec_l12Ins_ (fun _ => g_spec_l01Below) k x = some b := evG_e _
/- spec_ArenaNew -/
def con_spec_ArenaNew (f : Nat → Unit → Option (List Int)) : Con := ⟨[], 1, [.v true [.own (.int .i64) 3]], f⟩
def spec_ArenaNew_ (k : Nat) : Unit → Option (List Int)
  | () =>
  if 64 = 64 then
   if 0 ≤ 64 then
    if (64 * ((8 : Nat) : Int)) ≤ 140737488355328 then some (List.replicate (Int.toNat 64) 0) else none
   else
    none
  else
   none
noncomputable def g_spec_ArenaNew : Unit → Option (List Int) := spec_ArenaNew_  0
theorem e_spec_ArenaNew : ∀ x b, g_spec_ArenaNew x = some b → ∃ k, spec_ArenaNew_  k x = some b := fun x b h => ⟨0, h⟩
/- spec_CodeText -/
def con_spec_CodeText (f : Nat → ((List (Int × Int))) → Option (ByteArray × Bool)) : Con := ⟨[.c (.sl (.pair (.int .i64) (.int .i64)))], 2, [.v false [.str], .v false [.bool]], f⟩
def spec_CodeText_L5 (spec_CodeOk : Nat → ((List (Int × Int))) → Option (Bool)) : Nat → Int × (List (Int × Int)) × List Int × Unit → Option (ByteArray × Bool)
  | 0, _ => none
  | k + 1, (b0, b1, b2, ()) =>
    if b0 < ((List.length b1 : Nat) : Int) then
     if 0 ≤ b0 then
      if b0 < ((List.length b1 : Nat) : Int) then
       if 0 ≤ b0 then
        if b0 < ((List.length b1 : Nat) : Int) then
         if (((List.length b2 + List.length [(wr .u8 (List.getD b1 (Int.toNat b0) (0, 0)).1), (wr .u8 (List.getD b1 (Int.toNat b0) (0, 0)).2)] : Nat) : Int) * ((1 : Nat) : Int)) ≤ 140737488355328 then spec_CodeText_L5 spec_CodeOk k ((wrap64 (b0 + 1)), b1, (b2 ++ [(wr .u8 (List.getD b1 (Int.toNat b0) (0, 0)).1), (wr .u8 (List.getD b1 (Int.toNat b0) (0, 0)).2)]), ()) else none
        else
         none
       else
        none
      else
       none
     else
      none
    else
     some ((bstr b2), true)
def spec_CodeText_ (spec_CodeOk : Nat → ((List (Int × Int))) → Option (Bool)) (k : Nat) : ((List (Int × Int))) → Option (ByteArray × Bool)
  | a0 =>
  (spec_CodeOk k a0).bind fun v0 =>
  if v0 = true then
   spec_CodeText_L5 spec_CodeOk k (0, a0, ([] : List Int), ())
  else
   some ((⟨#[]⟩ : ByteArray), false)
noncomputable def g_spec_CodeText : ((List (Int × Int))) → Option (ByteArray × Bool) := evG (spec_CodeText_ (fun _ => g_spec_CodeOk))
theorem e_spec_CodeText : ∀ x b, g_spec_CodeText x = some b → ∃ k, spec_CodeText_ (fun _ => g_spec_CodeOk) k x = some b := evG_e _
/- spec_l04Regions -/
def con_spec_l04Regions (f : Nat → (List Int × Int × Int) → Option (((List (Int × Int))) × (Unit × Int × Int))) : Con := ⟨[.ptr [.sl (.int .u8), .int .i64, .int .i64] 179], 1, [.v false [.own (.pair (.int .i64) (.int .i64)) 218], .box [.keep, .int .i64, .int .i64] 179], f⟩
def spec_l04Regions_L4 (spec_l01Below : Nat → (List Int × Int × Int) × Int → Option (Int × (Unit × Int × Int))) : Nat → Int × Int × Int × Int × List Int × (List (Int × Int)) × Unit → Option (((List (Int × Int))) × (Unit × Int × Int))
  | 0, _ => none
  | k + 1, (b0, b1, b2, b3, b4, b5, ()) =>
    (spec_l01Below k ((b4, (b2, b3)), 4)).bind fun v0 =>
    if b1 < (wrap64 (1 + v0.1)) then
     (spec_l01Below k ((b4, v0.2.2), 14)).bind fun v1 =>
     if (wrap64 (b0 + (wrap64 (1 + v1.1)))) ≤ 64 then
      if (((List.length b5 + List.length [(b0, (wrap64 (1 + v1.1)))] : Nat) : Int) * ((16 : Nat) : Int)) ≤ 140737488355328 then (spec_l01Below k ((b4, v1.2.2), 3)).bind fun v2 =>
       spec_l04Regions_L4 spec_l01Below k ((wrap64 ((wrap64 (b0 + (wrap64 (1 + v1.1)))) + v2.1)), (wrap64 (b1 + 1)), v2.2.2.1, v2.2.2.2, b4, (b5 ++ [(b0, (wrap64 (1 + v1.1)))]), ()) else none
     else
      (spec_l01Below k ((b4, v1.2.2), 3)).bind fun v3 =>
      spec_l04Regions_L4 spec_l01Below k ((wrap64 ((wrap64 (b0 + (wrap64 (1 + v1.1)))) + v3.1)), (wrap64 (b1 + 1)), v3.2.2.1, v3.2.2.2, b4, b5, ())
    else
     some (b5, ((), v0.2.2))
def spec_l04Regions_ (spec_l01Below : Nat → (List Int × Int × Int) × Int → Option (Int × (Unit × Int × Int))) (k : Nat) : (List Int × Int × Int) → Option (((List (Int × Int))) × (Unit × Int × Int))
  | (a0, a1, a2) =>
  (spec_l01Below k ((a0, (a1, a2)), 6)).bind fun v0 =>
  spec_l04Regions_L4 spec_l01Below k (v0.1, 0, v0.2.2.1, v0.2.2.2, a0, ([] : List (Int × Int)), ())
noncomputable def g_spec_l04Regions : (List Int × Int × Int) → Option (((List (Int × Int))) × (Unit × Int × Int)) := evG (spec_l04Regions_ (fun _ => g_spec_l01Below))
theorem e_spec_l04Regions : ∀ x b, g_spec_l04Regions x = some b → ∃ k, spec_l04Regions_ (fun _ => g_spec_l01Below) k x = some b := evG_e _
/- spec_l05Instr -/
def con_spec_l05Instr (f : Nat → (List Int × Int × Int) → Option ((Int × Int) × (Unit × Int × Int))) : Con := ⟨[.ptr [.sl (.int .u8), .int .i64, .int .i64] 179], 1, [.v true [.int .i64, .int .i64], .box [.keep, .int .i64, .int .i64] 179], f⟩
def spec_l05Instr_ (spec_l01Below : Nat → (List Int × Int × Int) × Int → Option (Int × (Unit × Int × Int))) (spec_l01Once : Nat → (List Int × Int × Int) × Int → Option (Bool × (Unit × Int × Int))) (spec_l01PickInt : Nat → (List Int × Int × Int) × List Int → Option (Int × (Unit × Int × Int))) (k : Nat) : (List Int × Int × Int) → Option ((Int × Int) × (Unit × Int × Int))
  | (a0, a1, a2) =>
  (spec_l01PickInt k ((a0, (a1, a2)), [0, 1, 1, 1, 1, 1, 2, 3, 3, 4, 5, 6, 7, 8, 9, 10, 11, 12, 13, 14, 15, 16, 17])).bind fun v0 =>
  (spec_l01Below k ((a0, v0.2.2), 4)).bind fun v1 =>
  if v0.1 = 1 then
   (spec_l01Below k ((a0, v1.2.2), 8)).bind fun v2 =>
   if v0.1 = 9 then
    (spec_l01Below k ((a0, v2.2.2), 14)).bind fun v3 =>
    (spec_l01Once k ((a0, v3.2.2), 40)).bind fun v4 =>
    if v4.1 = true then
     (spec_l01Below k ((a0, v4.2.2), 256)).bind fun v5 =>
     some ((v5.1, v3.1), ((), v5.2.2))
    else
     some ((v0.1, v3.1), ((), v4.2.2))
   else
    if v0.1 = 10 then
     (spec_l01Below k ((a0, v2.2.2), 14)).bind fun v6 =>
     (spec_l01Once k ((a0, v6.2.2), 40)).bind fun v7 =>
     if v7.1 = true then
      (spec_l01Below k ((a0, v7.2.2), 256)).bind fun v8 =>
      some ((v8.1, v6.1), ((), v8.2.2))
     else
      some ((v0.1, v6.1), ((), v7.2.2))
    else
     (spec_l01Once k ((a0, v2.2.2), 40)).bind fun v9 =>
     if v9.1 = true then
      (spec_l01Below k ((a0, v9.2.2), 256)).bind fun v10 =>
      some ((v10.1, v2.1), ((), v10.2.2))
     else
      some ((v0.1, v2.1), ((), v9.2.2))
  else
   if v0.1 = 9 then
    (spec_l01Below k ((a0, v1.2.2), 14)).bind fun v11 =>
    (spec_l01Once k ((a0, v11.2.2), 40)).bind fun v12 =>
    if v12.1 = true then
     (spec_l01Below k ((a0, v12.2.2), 256)).bind fun v13 =>
     some ((v13.1, v11.1), ((), v13.2.2))
    else
     some ((v0.1, v11.1), ((), v12.2.2))
   else
    if v0.1 = 10 then
     (spec_l01Below k ((a0, v1.2.2), 14)).bind fun v14 =>
     (spec_l01Once k ((a0, v14.2.2), 40)).bind fun v15 =>
     if v15.1 = true then
      (spec_l01Below k ((a0, v15.2.2), 256)).bind fun v16 =>
      some ((v16.1, v14.1), ((), v16.2.2))
     else
      some ((v0.1, v14.1), ((), v15.2.2))
    else
     (spec_l01Once k ((a0, v1.2.2), 40)).bind fun v17 =>
     if v17.1 = true then
      (spec_l01Below k ((a0, v17.2.2), 256)).bind fun v18 =>
      some ((v18.1, v1.1), ((), v18.2.2))
     else
      some ((v0.1, v1.1), ((), v17.2.2))
noncomputable def g_spec_l05Instr : (List Int × Int × Int) → Option ((Int × Int) × (Unit × Int × Int)) := spec_l05Instr_ (fun _ => g_spec_l01Below) (fun _ => g_spec_l01Once) (fun _ => g_spec_l01PickInt) 0
theorem e_spec_l05Instr : ∀ x b, g_spec_l05Instr x = some b → ∃ k, spec_l05Instr_ (fun _ => g_spec_l01Below) (fun _ => g_spec_l01Once) (fun _ => g_spec_l01PickInt) k x = some b := fun x b h => ⟨0, h⟩
/- spec_l05Code -/
def con_spec_l05Code (f : Nat → (List Int × Int × Int) → Option (((List (Int × Int))) × (Unit × Int × Int))) : Con := ⟨[.ptr [.sl (.int .u8), .int .i64, .int .i64] 179], 1, [.v false [.own (.pair (.int .i64) (.int .i64)) 255], .box [.keep, .int .i64, .int .i64] 179], f⟩
def spec_l05Code_L3 (spec_l01Below : Nat → (List Int × Int × Int) × Int → Option (Int × (Unit × Int × Int))) (spec_l01Once : Nat → (List Int × Int × Int) × Int → Option (Bool × (Unit × Int × Int))) (spec_l05Instr : Nat → (List Int × Int × Int) → Option ((Int × Int) × (Unit × Int × Int))) : Nat → Int × Int × Int × List Int × (List (Int × Int)) × Unit → Option (((List (Int × Int))) × (Unit × Int × Int))
  | 0, _ => none
  | k + 1, (b0, b1, b2, b3, b4, ()) =>
    (spec_l01Below k ((b3, (b1, b2)), 16)).bind fun v0 =>
    if b0 < v0.1 then
     (spec_l01Below k ((b3, v0.2.2), 6)).bind fun v1 =>
     if v1.1 = 0 then
      (spec_l01Below k ((b3, v1.2.2), 5)).bind fun v2 =>
      (spec_l01Below k ((b3, v2.2.2), 9)).bind fun v3 =>
      if (((List.length b4 + List.length [(1, v2.1), (1, v3.1), (3, 0)] : Nat) : Int) * ((16 : Nat) : Int)) ≤ 140737488355328 then spec_l05Code_L3 spec_l01Below spec_l01Once spec_l05Instr k ((wrap64 (b0 + 1)), v3.2.2.1, v3.2.2.2, b3, (b4 ++ [(1, v2.1), (1, v3.1), (3, 0)]), ()) else none
     else
      if v1.1 = 1 then
       (spec_l01Below k ((b3, v1.2.2), 5)).bind fun v4 =>
       (spec_l01Below k ((b3, v4.2.2), 2)).bind fun v5 =>
       if (((List.length b4 + List.length [(1, v4.1), (2, 0), (16, v5.1)] : Nat) : Int) * ((16 : Nat) : Int)) ≤ 140737488355328 then spec_l05Code_L3 spec_l01Below spec_l01Once spec_l05Instr k ((wrap64 (b0 + 1)), v5.2.2.1, v5.2.2.2, b3, (b4 ++ [(1, v4.1), (2, 0), (16, v5.1)]), ()) else none
      else
       if v1.1 = 2 then
        (spec_l01Below k ((b3, v1.2.2), 3)).bind fun v6 =>
        (spec_l01Below k ((b3, v6.2.2), 3)).bind fun v7 =>
        if (((List.length b4 + List.length [(15, v6.1), (13, v7.1), (12, 0)] : Nat) : Int) * ((16 : Nat) : Int)) ≤ 140737488355328 then spec_l05Code_L3 spec_l01Below spec_l01Once spec_l05Instr k ((wrap64 (b0 + 1)), v7.2.2.1, v7.2.2.2, b3, (b4 ++ [(15, v6.1), (13, v7.1), (12, 0)]), ()) else none
       else
        (spec_l05Instr k (b3, v1.2.2)).bind fun v8 =>
        if (((List.length b4 + List.length [v8.1] : Nat) : Int) * ((16 : Nat) : Int)) ≤ 140737488355328 then spec_l05Code_L3 spec_l01Below spec_l01Once spec_l05Instr k ((wrap64 (b0 + 1)), v8.2.2.1, v8.2.2.2, b3, (b4 ++ [v8.1]), ()) else none
    else
     (spec_l01Once k ((b3, v0.2.2), 2)).bind fun v9 =>
     if v9.1 = true then
      if (((List.length b4 + List.length [(0, 0)] : Nat) : Int) * ((16 : Nat) : Int)) ≤ 140737488355328 then some ((b4 ++ [(0, 0)]), ((), v9.2.2)) else none
     else
      some (b4, ((), v9.2.2))
def spec_l05Code_ (spec_l01Below : Nat → (List Int × Int × Int) × Int → Option (Int × (Unit × Int × Int))) (spec_l01Once : Nat → (List Int × Int × Int) × Int → Option (Bool × (Unit × Int × Int))) (spec_l05Instr : Nat → (List Int × Int × Int) → Option ((Int × Int) × (Unit × Int × Int))) (k : Nat) : (List Int × Int × Int) → Option (((List (Int × Int))) × (Unit × Int × Int))
  | (a0, a1, a2) =>
  spec_l05Code_L3 spec_l01Below spec_l01Once spec_l05Instr k (0, a1, a2, a0, ([] : List (Int × Int)), ())
noncomputable def g_spec_l05Code : (List Int × Int × Int) → Option (((List (Int × Int))) × (Unit × Int × Int)) := evG (spec_l05Code_ (fun _ => g_spec_l01Below) (fun _ => g_spec_l01Once) (fun _ => g_spec_l05Instr))
theorem e_spec_l05Code : ∀ x b, g_spec_l05Code x = some b → ∃ k, spec_l05Code_ (fun _ => g_spec_l01Below) (fun _ => g_spec_l01Once) (fun _ => g_spec_l05Instr) k x = some b := evG_e _
/- spec_l08Port -/
def con_spec_l08Port (f : Nat → (List Int × Int × Int) → Option ((Int × Int × Int × Int × Int) × (Unit × Int × Int))) : Con := ⟨[.ptr [.sl (.int .u8), .int .i64, .int .i64] 179], 1, [.v true [.int .i64, .int .i64, .int .i64, .int .i64, .int .i64], .box [.keep, .int .i64, .int .i64] 179], f⟩
def spec_l08Port_ (spec_l01Below : Nat → (List Int × Int × Int) × Int → Option (Int × (Unit × Int × Int))) (spec_l01Once : Nat → (List Int × Int × Int) × Int → Option (Bool × (Unit × Int × Int))) (k : Nat) : (List Int × Int × Int) → Option ((Int × Int × Int × Int × Int) × (Unit × Int × Int))
  | (a0, a1, a2) =>
  (spec_l01Below k ((a0, (a1, a2)), 3)).bind fun v0 =>
  (spec_l01Below k ((a0, v0.2.2), 3)).bind fun v1 =>
  (spec_l01Below k ((a0, v1.2.2), 3)).bind fun v2 =>
  if (wrap64 (1 + v0.1)) = (wrap64 (1 + v1.1)) then
   if 3 = 0 then
    none
   else
    (spec_l01Once k ((a0, v2.2.2), 3)).bind fun v3 =>
    if v3.1 = true then
     (spec_l01Below k ((a0, v3.2.2), 8)).bind fun v4 =>
     some ((2, ((wrap64 (1 + v0.1)), ((wrap64 (1 + (Int.tmod (wrap64 (1 + v0.1)) 3))), (1, (wrap64 (1 + v4.1)))))), ((), v4.2.2))
    else
     some ((1, ((wrap64 (1 + v0.1)), ((wrap64 (1 + (Int.tmod (wrap64 (1 + v0.1)) 3))), ((wrap64 (1 + v2.1)), 0)))), ((), v3.2.2))
  else
   (spec_l01Once k ((a0, v2.2.2), 3)).bind fun v5 =>
   if v5.1 = true then
    (spec_l01Below k ((a0, v5.2.2), 8)).bind fun v6 =>
    some ((2, ((wrap64 (1 + v0.1)), ((wrap64 (1 + v1.1)), (1, (wrap64 (1 + v6.1)))))), ((), v6.2.2))
   else
    some ((1, ((wrap64 (1 + v0.1)), ((wrap64 (1 + v1.1)), ((wrap64 (1 + v2.1)), 0)))), ((), v5.2.2))
noncomputable def g_spec_l08Port : (List Int × Int × Int) → Option ((Int × Int × Int × Int × Int) × (Unit × Int × Int)) := spec_l08Port_ (fun _ => g_spec_l01Below) (fun _ => g_spec_l01Once) 0
theorem e_spec_l08Port : ∀ x b, g_spec_l08Port x = some b → ∃ k, spec_l08Port_ (fun _ => g_spec_l01Below) (fun _ => g_spec_l01Once) k x = some b := fun x b h => ⟨0, h⟩
/- spec_l09Plan -/
def con_spec_l09Plan (f : Nat → (List Int × Int × Int) × Int → Option (((List (Int × Int))) × (Unit × Int × Int))) : Con := ⟨[.ptr [.sl (.int .u8), .int .i64, .int .i64] 179, .c (.int .i64)], 1, [.v false [.own (.pair (.int .i64) (.int .i64)) 102], .box [.keep, .int .i64, .int .i64] 179], f⟩
def spec_l09Plan_L3 (spec_l01Below : Nat → (List Int × Int × Int) × Int → Option (Int × (Unit × Int × Int))) : Nat → Int × Int × Int × Int × List Int × (List (Int × Int)) × Unit → Option (((List (Int × Int))) × (Unit × Int × Int))
  | 0, _ => none
  | k + 1, (b0, b1, b2, b3, b4, b5, ()) =>
    (spec_l01Below k ((b4, (b2, b3)), 5)).bind fun v0 =>
    if b1 < (wrap64 (1 + v0.1)) then
     (spec_l01Below k ((b4, v0.2.2), b0)).bind fun v1 =>
     (spec_l01Below k ((b4, v1.2.2), 40)).bind fun v2 =>
     if (((List.length b5 + List.length [((wrap64 (1 + v1.1)), (wrap64 (1 + v2.1)))] : Nat) : Int) * ((16 : Nat) : Int)) ≤ 140737488355328 then spec_l09Plan_L3 spec_l01Below k (b0, (wrap64 (b1 + 1)), v2.2.2.1, v2.2.2.2, b4, (b5 ++ [((wrap64 (1 + v1.1)), (wrap64 (1 + v2.1)))]), ()) else none
    else
     some (b5, ((), v0.2.2))
def spec_l09Plan_ (spec_l01Below : Nat → (List Int × Int × Int) × Int → Option (Int × (Unit × Int × Int))) (k : Nat) : (List Int × Int × Int) × Int → Option (((List (Int × Int))) × (Unit × Int × Int))
  | ((a0, a1, a2), a3) =>
  spec_l09Plan_L3 spec_l01Below k (a3, 0, a1, a2, a0, ([] : List (Int × Int)), ())
noncomputable def g_spec_l09Plan : (List Int × Int × Int) × Int → Option (((List (Int × Int))) × (Unit × Int × Int)) := evG (spec_l09Plan_ (fun _ => g_spec_l01Below))
theorem e_spec_l09Plan : ∀ x b, g_spec_l09Plan x = some b → ∃ k, spec_l09Plan_ (fun _ => g_spec_l01Below) k x = some b := evG_e _
/- spec_l10Rules -/
def con_spec_l10Rules (f : Nat → (List Int × Int × Int) × Int → Option (((List (Int × (Int × Int)))) × (Unit × Int × Int))) : Con := ⟨[.ptr [.sl (.int .u8), .int .i64, .int .i64] 179, .c (.int .i64)], 1, [.v false [.own (.pair (.int .i64) (.pair (.int .i64) (.int .i64))) 259], .box [.keep, .int .i64, .int .i64] 179], f⟩
def spec_l10Rules_L3 (spec_RulesOk : Nat → ((List (Int × (Int × Int)))) → Option (Bool)) (spec_l01Below : Nat → (List Int × Int × Int) × Int → Option (Int × (Unit × Int × Int))) (spec_l01Once : Nat → (List Int × Int × Int) × Int → Option (Bool × (Unit × Int × Int))) : Nat → Int × Int × Int × Int × List Int × (List (Int × (Int × Int))) × Unit → Option (((List (Int × (Int × Int)))) × (Unit × Int × Int))
  | 0, _ => none
  | k + 1, (b0, b1, b2, b3, b4, b5, ()) =>
    (spec_l01Below k ((b4, (b2, b3)), 6)).bind fun v0 =>
    if b1 < v0.1 then
     (spec_l01Below k ((b4, v0.2.2), b0)).bind fun v1 =>
     (spec_l01Below k ((b4, v1.2.2), 2)).bind fun v2 =>
     (spec_l01Below k ((b4, v2.2.2), 3)).bind fun v3 =>
     (spec_l01Once k ((b4, v3.2.2), 8)).bind fun v4 =>
     if v4.1 = true then
      if (((List.length ([] : List (Int × (Int × Int))) + List.length b5 : Nat) : Int) * ((24 : Nat) : Int)) ≤ 140737488355328 then
       if (((List.length (([] : List (Int × (Int × Int))) ++ b5) + List.length [((wrap64 (1 + v1.1)), ((wrap64 (1 + v2.1)), 4))] : Nat) : Int) * ((24 : Nat) : Int)) ≤ 140737488355328 then (spec_RulesOk k ((([] : List (Int × (Int × Int))) ++ b5) ++ [((wrap64 (1 + v1.1)), ((wrap64 (1 + v2.1)), 4))])).bind fun v5 =>
        if v5 = true then
         spec_l10Rules_L3 spec_RulesOk spec_l01Below spec_l01Once k (b0, (wrap64 (b1 + 1)), v4.2.2.1, v4.2.2.2, b4, ((([] : List (Int × (Int × Int))) ++ b5) ++ [((wrap64 (1 + v1.1)), ((wrap64 (1 + v2.1)), 4))]), ())
        else
         spec_l10Rules_L3 spec_RulesOk spec_l01Below spec_l01Once k (b0, (wrap64 (b1 + 1)), v4.2.2.1, v4.2.2.2, b4, b5, ()) else none
      else
       none
     else
      if (((List.length ([] : List (Int × (Int × Int))) + List.length b5 : Nat) : Int) * ((24 : Nat) : Int)) ≤ 140737488355328 then
       if (((List.length (([] : List (Int × (Int × Int))) ++ b5) + List.length [((wrap64 (1 + v1.1)), ((wrap64 (1 + v2.1)), (wrap64 (1 + v3.1))))] : Nat) : Int) * ((24 : Nat) : Int)) ≤ 140737488355328 then (spec_RulesOk k ((([] : List (Int × (Int × Int))) ++ b5) ++ [((wrap64 (1 + v1.1)), ((wrap64 (1 + v2.1)), (wrap64 (1 + v3.1))))])).bind fun v6 =>
        if v6 = true then
         spec_l10Rules_L3 spec_RulesOk spec_l01Below spec_l01Once k (b0, (wrap64 (b1 + 1)), v4.2.2.1, v4.2.2.2, b4, ((([] : List (Int × (Int × Int))) ++ b5) ++ [((wrap64 (1 + v1.1)), ((wrap64 (1 + v2.1)), (wrap64 (1 + v3.1))))]), ())
        else
         spec_l10Rules_L3 spec_RulesOk spec_l01Below spec_l01Once k (b0, (wrap64 (b1 + 1)), v4.2.2.1, v4.2.2.2, b4, b5, ()) else none
      else
       none
    else
     some (b5, ((), v0.2.2))
def spec_l10Rules_ (spec_RulesOk : Nat → ((List (Int × (Int × Int)))) → Option (Bool)) (spec_l01Below : Nat → (List Int × Int × Int) × Int → Option (Int × (Unit × Int × Int))) (spec_l01Once : Nat → (List Int × Int × Int) × Int → Option (Bool × (Unit × Int × Int))) (k : Nat) : (List Int × Int × Int) × Int → Option (((List (Int × (Int × Int)))) × (Unit × Int × Int))
  | ((a0, a1, a2), a3) =>
  spec_l10Rules_L3 spec_RulesOk spec_l01Below spec_l01Once k (a3, 0, a1, a2, a0, ([] : List (Int × (Int × Int))), ())
noncomputable def g_spec_l10Rules : (List Int × Int × Int) × Int → Option (((List (Int × (Int × Int)))) × (Unit × Int × Int)) := evG (spec_l10Rules_ (fun _ => g_spec_RulesOk) (fun _ => g_spec_l01Below) (fun _ => g_spec_l01Once))
theorem e_spec_l10Rules : ∀ x b, g_spec_l10Rules x = some b → ∃ k, spec_l10Rules_ (fun _ => g_spec_RulesOk) (fun _ => g_spec_l01Below) (fun _ => g_spec_l01Once) k x = some b := evG_e _
/- spec_l11Setup -/
def con_spec_l11Setup (f : Nat → (List Int × Int × Int) → Option (((List (Int × Int)) × (List (Int × Int)) × (List (Int × (Int × (Int × (Int × Int))))) × (List (Int × (Int × Int))) × List ByteArray) × (Unit × Int × Int))) : Con := ⟨[.ptr [.sl (.int .u8), .int .i64, .int .i64] 179], 1, [.v true [.own (.pair (.int .i64) (.int .i64)) 218, .own (.pair (.int .i64) (.int .i64)) 102, .own (.pair (.int .i64) (.pair (.int .i64) (.pair (.int .i64) (.pair (.int .i64) (.int .i64))))) 247, .own (.pair (.int .i64) (.pair (.int .i64) (.int .i64))) 259, .own .str 9], .box [.keep, .int .i64, .int .i64] 179], f⟩
mutual
def spec_l11Setup_L6 (spec_CodeText : Nat → ((List (Int × Int))) → Option (ByteArray × Bool)) (spec_l01Below : Nat → (List Int × Int × Int) × Int → Option (Int × (Unit × Int × Int))) (spec_l04Regions : Nat → (List Int × Int × Int) → Option (((List (Int × Int))) × (Unit × Int × Int))) (spec_l05Code : Nat → (List Int × Int × Int) → Option (((List (Int × Int))) × (Unit × Int × Int))) (spec_l08Port : Nat → (List Int × Int × Int) → Option ((Int × Int × Int × Int × Int) × (Unit × Int × Int))) (spec_l09Plan : Nat → (List Int × Int × Int) × Int → Option (((List (Int × Int))) × (Unit × Int × Int))) (spec_l10Rules : Nat → (List Int × Int × Int) × Int → Option (((List (Int × (Int × Int)))) × (Unit × Int × Int))) : Nat → Int × Int × Int × Int × List Int × (List (Int × Int)) × (List (Int × Int)) × (List (Int × (Int × (Int × (Int × Int))))) × (List (Int × (Int × Int))) × List ByteArray × (List (Int × Int)) × (List (Int × Int)) × (List (Int × (Int × (Int × (Int × Int))))) × (List (Int × (Int × Int))) × List ByteArray × Unit → Option (((List (Int × Int)) × (List (Int × Int)) × (List (Int × (Int × (Int × (Int × Int))))) × (List (Int × (Int × Int))) × List ByteArray) × (Unit × Int × Int))
  | 0, _ => none
  | k + 1, (b0, b1, b2, b3, b4, b5, b6, b7, b8, b9, b10, b11, b12, b13, b14, ()) =>
    (spec_l01Below k ((b4, (b2, b3)), 4)).bind fun v0 =>
    if b1 < v0.1 then
     (spec_l08Port k (b4, v0.2.2)).bind fun v1 =>
     if v1.1.2.1 ≤ b0 then
      if v1.1.2.2.1 ≤ b0 then
       if (((List.length b12 + List.length [v1.1] : Nat) : Int) * ((40 : Nat) : Int)) ≤ 140737488355328 then spec_l11Setup_L6 spec_CodeText spec_l01Below spec_l04Regions spec_l05Code spec_l08Port spec_l09Plan spec_l10Rules k (b0, (wrap64 (b1 + 1)), v1.2.2.1, v1.2.2.2, b4, b5, b6, b7, b8, b9, b10, b11, (b12 ++ [v1.1]), b13, b14, ()) else none
      else
       spec_l11Setup_L6 spec_CodeText spec_l01Below spec_l04Regions spec_l05Code spec_l08Port spec_l09Plan spec_l10Rules k (b0, (wrap64 (b1 + 1)), v1.2.2.1, v1.2.2.2, b4, b5, b6, b7, b8, b9, b10, b11, b12, b13, b14, ())
     else
      spec_l11Setup_L6 spec_CodeText spec_l01Below spec_l04Regions spec_l05Code spec_l08Port spec_l09Plan spec_l10Rules k (b0, (wrap64 (b1 + 1)), v1.2.2.1, v1.2.2.2, b4, b5, b6, b7, b8, b9, b10, b11, b12, b13, b14, ())
    else
     spec_l11Setup_L12 spec_CodeText spec_l01Below spec_l04Regions spec_l05Code spec_l08Port spec_l09Plan spec_l10Rules k (b0, 0, v0.2.2.1, v0.2.2.2, b4, b5, b6, b7, b8, b9, b10, b11, b12, b13, b14, ())
def spec_l11Setup_L12 (spec_CodeText : Nat → ((List (Int × Int))) → Option (ByteArray × Bool)) (spec_l01Below : Nat → (List Int × Int × Int) × Int → Option (Int × (Unit × Int × Int))) (spec_l04Regions : Nat → (List Int × Int × Int) → Option (((List (Int × Int))) × (Unit × Int × Int))) (spec_l05Code : Nat → (List Int × Int × Int) → Option (((List (Int × Int))) × (Unit × Int × Int))) (spec_l08Port : Nat → (List Int × Int × Int) → Option ((Int × Int × Int × Int × Int) × (Unit × Int × Int))) (spec_l09Plan : Nat → (List Int × Int × Int) × Int → Option (((List (Int × Int))) × (Unit × Int × Int))) (spec_l10Rules : Nat → (List Int × Int × Int) × Int → Option (((List (Int × (Int × Int)))) × (Unit × Int × Int))) : Nat → Int × Int × Int × Int × List Int × (List (Int × Int)) × (List (Int × Int)) × (List (Int × (Int × (Int × (Int × Int))))) × (List (Int × (Int × Int))) × List ByteArray × (List (Int × Int)) × (List (Int × Int)) × (List (Int × (Int × (Int × (Int × Int))))) × (List (Int × (Int × Int))) × List ByteArray × Unit → Option (((List (Int × Int)) × (List (Int × Int)) × (List (Int × (Int × (Int × (Int × Int))))) × (List (Int × (Int × Int))) × List ByteArray) × (Unit × Int × Int))
  | 0, _ => none
  | k + 1, (b0, b1, b2, b3, b4, b5, b6, b7, b8, b9, b10, b11, b12, b13, b14, ()) =>
    if b1 < b0 then
     (spec_l05Code k (b4, (b2, b3))).bind fun v0 =>
     (spec_CodeText k v0.1).bind fun v1 =>
     if (((List.length b14 + List.length [v1.1] : Nat) : Int) * ((16 : Nat) : Int)) ≤ 140737488355328 then spec_l11Setup_L12 spec_CodeText spec_l01Below spec_l04Regions spec_l05Code spec_l08Port spec_l09Plan spec_l10Rules k (b0, (wrap64 (b1 + 1)), v0.2.2.1, v0.2.2.2, b4, b5, b6, b7, b8, b9, b10, b11, b12, b13, (b14 ++ [v1.1]), ()) else none
    else
     some ((b10, (b11, (b12, (b13, b14)))), ((), (b2, b3)))
end
def spec_l11Setup_ (spec_CodeText : Nat → ((List (Int × Int))) → Option (ByteArray × Bool)) (spec_l01Below : Nat → (List Int × Int × Int) × Int → Option (Int × (Unit × Int × Int))) (spec_l04Regions : Nat → (List Int × Int × Int) → Option (((List (Int × Int))) × (Unit × Int × Int))) (spec_l05Code : Nat → (List Int × Int × Int) → Option (((List (Int × Int))) × (Unit × Int × Int))) (spec_l08Port : Nat → (List Int × Int × Int) → Option ((Int × Int × Int × Int × Int) × (Unit × Int × Int))) (spec_l09Plan : Nat → (List Int × Int × Int) × Int → Option (((List (Int × Int))) × (Unit × Int × Int))) (spec_l10Rules : Nat → (List Int × Int × Int) × Int → Option (((List (Int × (Int × Int)))) × (Unit × Int × Int))) (k : Nat) : (List Int × Int × Int) → Option (((List (Int × Int)) × (List (Int × Int)) × (List (Int × (Int × (Int × (Int × Int))))) × (List (Int × (Int × Int))) × List ByteArray) × (Unit × Int × Int))
  | (a0, a1, a2) =>
  (spec_l04Regions k (a0, (a1, a2))).bind fun v0 =>
  (spec_l09Plan k ((a0, v0.2.2), ((List.length v0.1 : Nat) : Int))).bind fun v1 =>
  (spec_l10Rules k ((a0, v1.2.2), ((List.length v0.1 : Nat) : Int))).bind fun v2 =>
  spec_l11Setup_L6 spec_CodeText spec_l01Below spec_l04Regions spec_l05Code spec_l08Port spec_l09Plan spec_l10Rules k (((List.length v0.1 : Nat) : Int), 0, v2.2.2.1, v2.2.2.2, a0, [], [], [], [], [], v0.1, v1.1, [], v2.1, [], ())
noncomputable def g_spec_l11Setup : (List Int × Int × Int) → Option (((List (Int × Int)) × (List (Int × Int)) × (List (Int × (Int × (Int × (Int × Int))))) × (List (Int × (Int × Int))) × List ByteArray) × (Unit × Int × Int)) := evG (spec_l11Setup_ (fun _ => g_spec_CodeText) (fun _ => g_spec_l01Below) (fun _ => g_spec_l04Regions) (fun _ => g_spec_l05Code) (fun _ => g_spec_l08Port) (fun _ => g_spec_l09Plan) (fun _ => g_spec_l10Rules))
theorem e_spec_l11Setup : ∀ x b, g_spec_l11Setup x = some b → ∃ k, spec_l11Setup_ (fun _ => g_spec_CodeText) (fun _ => g_spec_l01Below) (fun _ => g_spec_l04Regions) (fun _ => g_spec_l05Code) (fun _ => g_spec_l08Port) (fun _ => g_spec_l09Plan) (fun _ => g_spec_l10Rules) k x = some b := evG_e _
/- spec_KernelNew -/
def con_spec_KernelNew (f : Nat → ((List (Int × Int)) × (List (Int × Int)) × (List (Int × (Int × (Int × (Int × Int))))) × (List (Int × (Int × Int))) × List ByteArray) → Option (((List (Int × Int)) × (List (Int × Int)) × (List (Int × (Int × (Int × (Int × Int))))) × (List (Int × (Int × Int))) × List ByteArray × List Int × (List (Int × ((Int × (List Int)) × (Int × (Int × Int))))) × (List (List (Int × Int))) × List Int × Int × Bool × (List (Int × (Int × (Int × (Int × Int)))))) × Int)) : Con := ⟨[.agg [.sl (.pair (.int .i64) (.int .i64)), .sl (.pair (.int .i64) (.int .i64)), .sl (.pair (.int .i64) (.pair (.int .i64) (.pair (.int .i64) (.pair (.int .i64) (.int .i64))))), .sl (.pair (.int .i64) (.pair (.int .i64) (.int .i64))), .sl .str]], 2, [.v true [.own (.pair (.int .i64) (.int .i64)) 218, .own (.pair (.int .i64) (.int .i64)) 102, .own (.pair (.int .i64) (.pair (.int .i64) (.pair (.int .i64) (.pair (.int .i64) (.int .i64))))) 247, .own (.pair (.int .i64) (.pair (.int .i64) (.int .i64))) 259, .own .str 9, .own (.int .i64) 3, .nown (.pair (.f (.int .i64)) (.pair (.pair (.f (.int .i64)) (.sl (.int .i64))) (.pair (.f (.int .i64)) (.pair (.f (.int .i64)) (.f (.int .i64)))))) 147, .nown (.sl (.pair (.int .i64) (.int .i64))) 227, .own (.int .i64) 3, .int .i64, .bool, .own (.pair (.int .i64) (.pair (.int .i64) (.pair (.int .i64) (.pair (.int .i64) (.int .i64))))) 172], .v false [.int .i64]], f⟩
def spec_KernelNew_ (spec_ArenaNew : Nat → Unit → Option (List Int)) (spec_SetupFault : Nat → ((List (Int × Int)) × (List (Int × Int)) × (List (Int × (Int × (Int × (Int × Int))))) × (List (Int × (Int × Int))) × List ByteArray) → Option (Int)) (spec_l12Setup : Nat → ((List (Int × Int)) × (List (Int × Int)) × (List (Int × (Int × (Int × (Int × Int))))) × (List (Int × (Int × Int))) × List ByteArray) → Option (((List (Int × Int)) × (List (Int × Int)) × (List (Int × (Int × (Int × (Int × Int))))) × (List (Int × (Int × Int))) × List ByteArray))) (k : Nat) : ((List (Int × Int)) × (List (Int × Int)) × (List (Int × (Int × (Int × (Int × Int))))) × (List (Int × (Int × Int))) × List ByteArray) → Option (((List (Int × Int)) × (List (Int × Int)) × (List (Int × (Int × (Int × (Int × Int))))) × (List (Int × (Int × Int))) × List ByteArray × List Int × (List (Int × ((Int × (List Int)) × (Int × (Int × Int))))) × (List (List (Int × Int))) × List Int × Int × Bool × (List (Int × (Int × (Int × (Int × Int)))))) × Int)
  | (a0, a1, a2, a3, a4) =>
  (spec_SetupFault k (a0, (a1, (a2, (a3, a4))))).bind fun v0 =>
  if v0 = 0 then
   (spec_l12Setup k (a0, (a1, (a2, (a3, a4))))).bind fun v1 =>
   (spec_ArenaNew k ()).bind fun v2 =>
   if 8 = 8 then
    if 0 ≤ 8 then
     if (8 * ((8 : Nat) : Int)) ≤ 140737488355328 then
      if ((List.length a0 : Nat) : Int) = ((List.length a0 : Nat) : Int) then
       if 0 ≤ ((List.length a0 : Nat) : Int) then
        if (((List.length a0 : Nat) : Int) * ((64 : Nat) : Int)) ≤ 140737488355328 then
         if ((List.length a2 : Nat) : Int) = ((List.length a2 : Nat) : Int) then
          if 0 ≤ ((List.length a2 : Nat) : Int) then
           if (((List.length a2 : Nat) : Int) * ((24 : Nat) : Int)) ≤ 140737488355328 then some ((v1.1, (v1.2.1, (v1.2.2.1, (v1.2.2.2.1, (v1.2.2.2.2, (v2, ((List.replicate (Int.toNat ((List.length a0 : Nat) : Int)) (0, ((0, ([] : List Int)), (0, (0, 0))))), ((List.replicate (Int.toNat ((List.length a2 : Nat) : Int)) ([] : List (Int × Int))), ((List.replicate (Int.toNat 8) 0), (0, (false, ([] : List (Int × (Int × (Int × (Int × Int)))))))))))))))), 0) else none
          else
           none
         else
          none
        else
         none
       else
        none
      else
       none
     else
      none
    else
     none
   else
    none
  else
   some ((([] : List (Int × Int)), (([] : List (Int × Int)), (([] : List (Int × (Int × (Int × (Int × Int))))), (([] : List (Int × (Int × Int))), (([] : List ByteArray), (([] : List Int), (([] : List (Int × ((Int × (List Int)) × (Int × (Int × Int))))), (([] : List (List (Int × Int))), (([] : List Int), (0, (false, ([] : List (Int × (Int × (Int × (Int × Int)))))))))))))))), v0)
noncomputable def g_spec_KernelNew : ((List (Int × Int)) × (List (Int × Int)) × (List (Int × (Int × (Int × (Int × Int))))) × (List (Int × (Int × Int))) × List ByteArray) → Option (((List (Int × Int)) × (List (Int × Int)) × (List (Int × (Int × (Int × (Int × Int))))) × (List (Int × (Int × Int))) × List ByteArray × List Int × (List (Int × ((Int × (List Int)) × (Int × (Int × Int))))) × (List (List (Int × Int))) × List Int × Int × Bool × (List (Int × (Int × (Int × (Int × Int)))))) × Int) := spec_KernelNew_ (fun _ => g_spec_ArenaNew) (fun _ => g_spec_SetupFault) (fun _ => g_spec_l12Setup) 0
theorem e_spec_KernelNew : ∀ x b, g_spec_KernelNew x = some b → ∃ k, spec_KernelNew_ (fun _ => g_spec_ArenaNew) (fun _ => g_spec_SetupFault) (fun _ => g_spec_l12Setup) k x = some b := fun x b h => ⟨0, h⟩
/- spec_l12Kernel -/
def con_spec_l12Kernel (f : Nat → (List Int × Int × Int) → Option (((List (Int × Int)) × (List (Int × Int)) × (List (Int × (Int × (Int × (Int × Int))))) × (List (Int × (Int × Int))) × List ByteArray × List Int × (List (Int × ((Int × (List Int)) × (Int × (Int × Int))))) × (List (List (Int × Int))) × List Int × Int × Bool × (List (Int × (Int × (Int × (Int × Int)))))) × (Unit × Int × Int))) : Con := ⟨[.ptr [.sl (.int .u8), .int .i64, .int .i64] 179], 1, [.v true [.own (.pair (.int .i64) (.int .i64)) 218, .own (.pair (.int .i64) (.int .i64)) 102, .own (.pair (.int .i64) (.pair (.int .i64) (.pair (.int .i64) (.pair (.int .i64) (.int .i64))))) 247, .own (.pair (.int .i64) (.pair (.int .i64) (.int .i64))) 259, .own .str 9, .own (.int .i64) 3, .nown (.pair (.f (.int .i64)) (.pair (.pair (.f (.int .i64)) (.sl (.int .i64))) (.pair (.f (.int .i64)) (.pair (.f (.int .i64)) (.f (.int .i64)))))) 147, .nown (.sl (.pair (.int .i64) (.int .i64))) 227, .own (.int .i64) 3, .int .i64, .bool, .own (.pair (.int .i64) (.pair (.int .i64) (.pair (.int .i64) (.pair (.int .i64) (.int .i64))))) 172], .box [.keep, .int .i64, .int .i64] 179], f⟩
def spec_l12Kernel_L3 (spec_KernelNew : Nat → ((List (Int × Int)) × (List (Int × Int)) × (List (Int × (Int × (Int × (Int × Int))))) × (List (Int × (Int × Int))) × List ByteArray) → Option (((List (Int × Int)) × (List (Int × Int)) × (List (Int × (Int × (Int × (Int × Int))))) × (List (Int × (Int × Int))) × List ByteArray × List Int × (List (Int × ((Int × (List Int)) × (Int × (Int × Int))))) × (List (List (Int × Int))) × List Int × Int × Bool × (List (Int × (Int × (Int × (Int × Int)))))) × Int)) (spec_TurnOf : Nat → ((List (Int × Int)) × (List (Int × Int)) × (List (Int × (Int × (Int × (Int × Int))))) × (List (Int × (Int × Int))) × List ByteArray × List Int × (List (Int × ((Int × (List Int)) × (Int × (Int × Int))))) × (List (List (Int × Int))) × List Int × Int × Bool × (List (Int × (Int × (Int × (Int × Int)))))) × List Int → Option (((List (Int × Int)) × (List (Int × Int)) × (List (Int × (Int × (Int × (Int × Int))))) × (List (Int × (Int × Int))) × List ByteArray × List Int × (List (Int × ((Int × (List Int)) × (Int × (Int × Int))))) × (List (List (Int × Int))) × List Int × Int × Bool × (List (Int × (Int × (Int × (Int × Int)))))))) (spec_l01Below : Nat → (List Int × Int × Int) × Int → Option (Int × (Unit × Int × Int))) (spec_l11Setup : Nat → (List Int × Int × Int) → Option (((List (Int × Int)) × (List (Int × Int)) × (List (Int × (Int × (Int × (Int × Int))))) × (List (Int × (Int × Int))) × List ByteArray) × (Unit × Int × Int))) (spec_l12Ins : Nat → (List Int × Int × Int) → Option (List Int × (Unit × Int × Int))) : Nat → Int × Int × Int × List Int × Int × Bool × Int × Bool × (List (Int × Int)) × (List (Int × Int)) × (List (Int × (Int × (Int × (Int × Int))))) × (List (Int × (Int × Int))) × List ByteArray × List Int × List Int × List Int × List Int × (List (Int × (Int × (Int × (Int × Int))))) × (List (Int × Int)) × (List (Int × Int)) × (List (Int × (Int × (Int × (Int × Int))))) × (List (Int × (Int × Int))) × List ByteArray × List Int × (List (Int × ((Int × (List Int)) × (Int × (Int × Int))))) × (List (List (Int × Int))) × List Int × (List (Int × (Int × (Int × (Int × Int))))) × Unit → Option (((List (Int × Int)) × (List (Int × Int)) × (List (Int × (Int × (Int × (Int × Int))))) × (List (Int × (Int × Int))) × List ByteArray × List Int × (List (Int × ((Int × (List Int)) × (Int × (Int × Int))))) × (List (List (Int × Int))) × List Int × Int × Bool × (List (Int × (Int × (Int × (Int × Int)))))) × (Unit × Int × Int))
  | 0, _ => none
  | k + 1, (b0, b1, b2, b3, b4, b5, b6, b7, b8, b9, b10, b11, b12, b13, b14, b15, b16, b17, b18, b19, b20, b21, b22, b23, b24, b25, b26, b27, ()) =>
    (spec_l01Below k ((b3, (b1, b2)), 12)).bind fun v0 =>
    if b0 < v0.1 then
     (spec_l12Ins k (b3, v0.2.2)).bind fun v1 =>
     (spec_TurnOf k ((b18, (b19, (b20, (b21, (b22, (b23, (b24, (b25, (b26, (b6, (b7, b27))))))))))), v1.1)).bind fun v2 =>
     spec_l12Kernel_L3 spec_KernelNew spec_TurnOf spec_l01Below spec_l11Setup spec_l12Ins k ((wrap64 (b0 + 1)), v1.2.2.1, v1.2.2.2, b3, b4, b5, v2.2.2.2.2.2.2.2.2.2.1, v2.2.2.2.2.2.2.2.2.2.2.1, b8, b9, b10, b11, b12, b13, b14, b15, b16, b17, v2.1, v2.2.1, v2.2.2.1, v2.2.2.2.1, v2.2.2.2.2.1, v2.2.2.2.2.2.1, v2.2.2.2.2.2.2.1, v2.2.2.2.2.2.2.2.1, v2.2.2.2.2.2.2.2.2.1, v2.2.2.2.2.2.2.2.2.2.2.2, ())
    else
     some ((b18, (b19, (b20, (b21, (b22, (b23, (b24, (b25, (b26, (b6, (b7, b27))))))))))), ((), v0.2.2))
def spec_l12Kernel_ (spec_KernelNew : Nat → ((List (Int × Int)) × (List (Int × Int)) × (List (Int × (Int × (Int × (Int × Int))))) × (List (Int × (Int × Int))) × List ByteArray) → Option (((List (Int × Int)) × (List (Int × Int)) × (List (Int × (Int × (Int × (Int × Int))))) × (List (Int × (Int × Int))) × List ByteArray × List Int × (List (Int × ((Int × (List Int)) × (Int × (Int × Int))))) × (List (List (Int × Int))) × List Int × Int × Bool × (List (Int × (Int × (Int × (Int × Int)))))) × Int)) (spec_TurnOf : Nat → ((List (Int × Int)) × (List (Int × Int)) × (List (Int × (Int × (Int × (Int × Int))))) × (List (Int × (Int × Int))) × List ByteArray × List Int × (List (Int × ((Int × (List Int)) × (Int × (Int × Int))))) × (List (List (Int × Int))) × List Int × Int × Bool × (List (Int × (Int × (Int × (Int × Int)))))) × List Int → Option (((List (Int × Int)) × (List (Int × Int)) × (List (Int × (Int × (Int × (Int × Int))))) × (List (Int × (Int × Int))) × List ByteArray × List Int × (List (Int × ((Int × (List Int)) × (Int × (Int × Int))))) × (List (List (Int × Int))) × List Int × Int × Bool × (List (Int × (Int × (Int × (Int × Int)))))))) (spec_l01Below : Nat → (List Int × Int × Int) × Int → Option (Int × (Unit × Int × Int))) (spec_l11Setup : Nat → (List Int × Int × Int) → Option (((List (Int × Int)) × (List (Int × Int)) × (List (Int × (Int × (Int × (Int × Int))))) × (List (Int × (Int × Int))) × List ByteArray) × (Unit × Int × Int))) (spec_l12Ins : Nat → (List Int × Int × Int) → Option (List Int × (Unit × Int × Int))) (k : Nat) : (List Int × Int × Int) → Option (((List (Int × Int)) × (List (Int × Int)) × (List (Int × (Int × (Int × (Int × Int))))) × (List (Int × (Int × Int))) × List ByteArray × List Int × (List (Int × ((Int × (List Int)) × (Int × (Int × Int))))) × (List (List (Int × Int))) × List Int × Int × Bool × (List (Int × (Int × (Int × (Int × Int)))))) × (Unit × Int × Int))
  | (a0, a1, a2) =>
  (spec_l11Setup k (a0, (a1, a2))).bind fun v0 =>
  (spec_KernelNew k v0.1).bind fun v1 =>
  spec_l12Kernel_L3 spec_KernelNew spec_TurnOf spec_l01Below spec_l11Setup spec_l12Ins k (0, v0.2.2.1, v0.2.2.2, a0, 0, false, v1.1.2.2.2.2.2.2.2.2.2.1, v1.1.2.2.2.2.2.2.2.2.2.2.1, [], [], [], [], [], [], [], [], [], [], v1.1.1, v1.1.2.1, v1.1.2.2.1, v1.1.2.2.2.1, v1.1.2.2.2.2.1, v1.1.2.2.2.2.2.1, v1.1.2.2.2.2.2.2.1, v1.1.2.2.2.2.2.2.2.1, v1.1.2.2.2.2.2.2.2.2.1, v1.1.2.2.2.2.2.2.2.2.2.2.2, ())
noncomputable def g_spec_l12Kernel : (List Int × Int × Int) → Option (((List (Int × Int)) × (List (Int × Int)) × (List (Int × (Int × (Int × (Int × Int))))) × (List (Int × (Int × Int))) × List ByteArray × List Int × (List (Int × ((Int × (List Int)) × (Int × (Int × Int))))) × (List (List (Int × Int))) × List Int × Int × Bool × (List (Int × (Int × (Int × (Int × Int)))))) × (Unit × Int × Int)) := evG (spec_l12Kernel_ (fun _ => g_spec_KernelNew) (fun _ => g_spec_TurnOf) (fun _ => g_spec_l01Below) (fun _ => g_spec_l11Setup) (fun _ => g_spec_l12Ins))
theorem e_spec_l12Kernel : ∀ x b, g_spec_l12Kernel x = some b → ∃ k, spec_l12Kernel_ (fun _ => g_spec_KernelNew) (fun _ => g_spec_TurnOf) (fun _ => g_spec_l01Below) (fun _ => g_spec_l11Setup) (fun _ => g_spec_l12Ins) k x = some b := evG_e _
/- spec_l01New -/
def con_spec_l01New (f : Nat → List Int → Option ((Unit × Int × Int))) : Con := ⟨[.c (.sl (.int .u8))], 1, [.box [.al 0 0, .int .i64, .int .i64] 179], f⟩
def spec_l01New_L3 : Nat → Int × Int × List Int × Unit → Option ((Unit × Int × Int))
  | 0, _ => none
  | k + 1, (b0, b1, b2, ()) =>
    if b1 < ((List.length b2 : Nat) : Int) then
     if b1 < 4000 then
      if 0 ≤ b1 then
       if b1 < ((List.length b2 : Nat) : Int) then spec_l01New_L3 k ((iand .i64 (wrap64 ((wrap64 ((wrap64 (b0 * 131)) + (wrap64 (List.getD b2 (Int.toNat b1) 0)))) + 7)) 1073741823), (wrap64 (b1 + 1)), b2, ()) else none
      else
       none
     else
      some ((), (0, b0))
    else
     some ((), (0, b0))
def spec_l01New_ (k : Nat) : List Int → Option ((Unit × Int × Int))
  | a0 =>
  spec_l01New_L3 k ((wrap64 (37101 + ((List.length a0 : Nat) : Int))), 0, a0, ())
noncomputable def g_spec_l01New : List Int → Option ((Unit × Int × Int)) := evG (spec_l01New_ )
theorem e_spec_l01New : ∀ x b, g_spec_l01New x = some b → ∃ k, spec_l01New_  k x = some b := evG_e _
/- spec_DrawKernel -/
def con_spec_DrawKernel (f : Nat → List Int → Option (((List (Int × Int)) × (List (Int × Int)) × (List (Int × (Int × (Int × (Int × Int))))) × (List (Int × (Int × Int))) × List ByteArray × List Int × (List (Int × ((Int × (List Int)) × (Int × (Int × Int))))) × (List (List (Int × Int))) × List Int × Int × Bool × (List (Int × (Int × (Int × (Int × Int)))))) × List Int)) : Con := ⟨[.c (.sl (.int .u8))], 2, [.v true [.own (.pair (.int .i64) (.int .i64)) 218, .own (.pair (.int .i64) (.int .i64)) 102, .own (.pair (.int .i64) (.pair (.int .i64) (.pair (.int .i64) (.pair (.int .i64) (.int .i64))))) 247, .own (.pair (.int .i64) (.pair (.int .i64) (.int .i64))) 259, .own .str 9, .own (.int .i64) 3, .nown (.pair (.f (.int .i64)) (.pair (.pair (.f (.int .i64)) (.sl (.int .i64))) (.pair (.f (.int .i64)) (.pair (.f (.int .i64)) (.f (.int .i64)))))) 147, .nown (.sl (.pair (.int .i64) (.int .i64))) 227, .own (.int .i64) 3, .int .i64, .bool, .own (.pair (.int .i64) (.pair (.int .i64) (.pair (.int .i64) (.pair (.int .i64) (.int .i64))))) 172], .v false [.own (.int .i64) 3]], f⟩
def spec_DrawKernel_ (spec_l01New : Nat → List Int → Option ((Unit × Int × Int))) (spec_l12Ins : Nat → (List Int × Int × Int) → Option (List Int × (Unit × Int × Int))) (spec_l12Kernel : Nat → (List Int × Int × Int) → Option (((List (Int × Int)) × (List (Int × Int)) × (List (Int × (Int × (Int × (Int × Int))))) × (List (Int × (Int × Int))) × List ByteArray × List Int × (List (Int × ((Int × (List Int)) × (Int × (Int × Int))))) × (List (List (Int × Int))) × List Int × Int × Bool × (List (Int × (Int × (Int × (Int × Int)))))) × (Unit × Int × Int))) (k : Nat) : List Int → Option (((List (Int × Int)) × (List (Int × Int)) × (List (Int × (Int × (Int × (Int × Int))))) × (List (Int × (Int × Int))) × List ByteArray × List Int × (List (Int × ((Int × (List Int)) × (Int × (Int × Int))))) × (List (List (Int × Int))) × List Int × Int × Bool × (List (Int × (Int × (Int × (Int × Int)))))) × List Int)
  | a0 =>
  (spec_l01New k a0).bind fun v0 =>
  (spec_l12Kernel k (a0, v0.2)).bind fun v1 =>
  (spec_l12Ins k (a0, v1.2.2)).bind fun v2 =>
  some (v1.1, v2.1)
noncomputable def g_spec_DrawKernel : List Int → Option (((List (Int × Int)) × (List (Int × Int)) × (List (Int × (Int × (Int × (Int × Int))))) × (List (Int × (Int × Int))) × List ByteArray × List Int × (List (Int × ((Int × (List Int)) × (Int × (Int × Int))))) × (List (List (Int × Int))) × List Int × Int × Bool × (List (Int × (Int × (Int × (Int × Int)))))) × List Int) := spec_DrawKernel_ (fun _ => g_spec_l01New) (fun _ => g_spec_l12Ins) (fun _ => g_spec_l12Kernel) 0
theorem e_spec_DrawKernel : ∀ x b, g_spec_DrawKernel x = some b → ∃ k, spec_DrawKernel_ (fun _ => g_spec_l01New) (fun _ => g_spec_l12Ins) (fun _ => g_spec_l12Kernel) k x = some b := fun x b h => ⟨0, h⟩
/- laws_big -/
def con_laws_big (f : Nat → List Int → Option (Bool)) : Con := ⟨[.c (.sl (.int .u8))], 1, [.v false [.bool]], f⟩
def laws_big_ (k : Nat) : List Int → Option (Bool)
  | a0 =>
  some (decide (1048576 < ((List.length a0 : Nat) : Int)))
noncomputable def g_laws_big : List Int → Option (Bool) := laws_big_  0
theorem e_laws_big : ∀ x b, g_laws_big x = some b → ∃ k, laws_big_  k x = some b := fun x b h => ⟨0, h⟩
end Go.Sx.T
