/- Functions of the program as functions of Lean, and that the program keeps to them. -/
import Derived.Test.YtkcfdkfdmglamaaFnApartOfA0
set_option maxRecDepth 100000
set_option linter.unusedVariables false
set_option linter.unusedSimpArgs false
namespace Go.Proofs
end Go.Proofs
namespace Go.Sx.T
open Go Go.Sx Go.Proofs Go.RowKit
/- spec_StepCpu -/
def con_spec_StepCpu (f : Nat → (Int × List Int) × ((List (Int × Int))) × List Int × (Int × Int) × Int → Option ((Int × List Int) × List Int × (Int × Int × Int × Int))) : Con := ⟨[.agg [.int .i64, .sl (.int .i64)], .c (.sl (.pair (.int .i64) (.int .i64))), .agg [.sl (.int .i64)], .agg [.int .i64, .int .i64], .c (.int .i64)], 3, [.v true [.int .i64, .own (.int .i64) 3], .v true [.own (.int .i64) 3], .v true [.int .i64, .int .i64, .int .i64, .int .i64]], f⟩
def spec_StepCpu_ (spec_CodeOk : Nat → ((List (Int × Int))) → Option (Bool)) (spec_CpuOk : Nat → (Int × List Int) → Option (Bool)) (spec_LoadCell : Nat → List Int × (Int × Int) × Int → Option (Int × Bool)) (spec_StoreCell : Nat → List Int × (Int × Int) × Int × Int → Option (List Int × Bool)) (spec_l04Copy : Nat → List Int → Option (List Int)) (spec_l04Mod : Nat → Int → Option (Int)) (spec_l06Copy : Nat → (Int × List Int) → Option ((Int × List Int))) (spec_l06Needs : Nat → Int → Option (Int × Int)) (spec_l06Sum : Nat → Int × Int × Int → Option (Int × Bool)) (k : Nat) : (Int × List Int) × ((List (Int × Int))) × List Int × (Int × Int) × Int → Option ((Int × List Int) × List Int × (Int × Int × Int × Int))
  | ((a0, a1), a2, a3, (a4, a5), a6) =>
  (spec_l06Copy k (a0, a1)).bind fun v0 =>
  (spec_CpuOk k (a0, a1)).bind fun v1 =>
  if v1 = true then
   (spec_CodeOk k a2).bind fun v2 =>
   if v2 = true then
    if ((List.length a2 : Nat) : Int) ≤ a0 then
     (spec_l04Copy k a3).bind fun v3 =>
     some (v0, (v3, (0, (0, (0, 6)))))
    else
     if 0 ≤ a0 then
      if a0 < ((List.length a2 : Nat) : Int) then
       if 17 < (List.getD a2 (Int.toNat a0) (0, 0)).1 then
        (spec_l04Copy k a3).bind fun v4 =>
        some (v0, (v4, (0, (0, (0, 1)))))
       else
        (spec_l06Needs k (List.getD a2 (Int.toNat a0) (0, 0)).1).bind fun v5 =>
        if ((List.length a1 : Nat) : Int) < v5.1 then
         (spec_l04Copy k a3).bind fun v6 =>
         some (v0, (v6, (0, (0, (0, 5)))))
        else
         if 0 ≤ (wrap64 (((List.length a1 : Nat) : Int) - v5.1)) then
          if (wrap64 (((List.length a1 : Nat) : Int) - v5.1)) ≤ ((List.length a1 : Nat) : Int) then
           if (((List.length ([] : List Int) + List.length (List.drop (Int.toNat 0) (List.take (Int.toNat (wrap64 (((List.length a1 : Nat) : Int) - v5.1))) a1)) : Nat) : Int) * ((8 : Nat) : Int)) ≤ 140737488355328 then (spec_l04Copy k a3).bind fun v7 =>
            if (List.getD a2 (Int.toNat a0) (0, 0)).1 = 0 then
             if 8 < (wrap64 ((wrap64 (((List.length a1 : Nat) : Int) - v5.1)) + v5.2)) then
              (spec_l04Copy k a3).bind fun v8 =>
              some (v0, (v8, (0, (0, (0, 4)))))
             else
              if 60 < (wrap64 (a0 + 1)) then
               some ((60, (([] : List Int) ++ (List.drop (Int.toNat 0) (List.take (Int.toNat (wrap64 (((List.length a1 : Nat) : Int) - v5.1))) a1)))), (v7, (0, (0, (0, 0)))))
              else
               some (((wrap64 (a0 + 1)), (([] : List Int) ++ (List.drop (Int.toNat 0) (List.take (Int.toNat (wrap64 (((List.length a1 : Nat) : Int) - v5.1))) a1)))), (v7, (0, (0, (0, 0)))))
            else
             if (List.getD a2 (Int.toNat a0) (0, 0)).1 = 1 then
              if (((List.length (([] : List Int) ++ (List.drop (Int.toNat 0) (List.take (Int.toNat (wrap64 (((List.length a1 : Nat) : Int) - v5.1))) a1))) + List.length [(List.getD a2 (Int.toNat a0) (0, 0)).2] : Nat) : Int) * ((8 : Nat) : Int)) ≤ 140737488355328 then
               if 8 < (wrap64 ((wrap64 (((List.length a1 : Nat) : Int) - v5.1)) + v5.2)) then
                (spec_l04Copy k a3).bind fun v9 =>
                some (v0, (v9, (0, (0, (0, 4)))))
               else
                if 60 < (wrap64 (a0 + 1)) then
                 some ((60, ((([] : List Int) ++ (List.drop (Int.toNat 0) (List.take (Int.toNat (wrap64 (((List.length a1 : Nat) : Int) - v5.1))) a1))) ++ [(List.getD a2 (Int.toNat a0) (0, 0)).2])), (v7, (0, (0, (0, 0)))))
                else
                 some (((wrap64 (a0 + 1)), ((([] : List Int) ++ (List.drop (Int.toNat 0) (List.take (Int.toNat (wrap64 (((List.length a1 : Nat) : Int) - v5.1))) a1))) ++ [(List.getD a2 (Int.toNat a0) (0, 0)).2])), (v7, (0, (0, (0, 0)))))
              else
               none
             else
              if (List.getD a2 (Int.toNat a0) (0, 0)).1 = 2 then
               if 0 ≤ (wrap64 (((List.length a1 : Nat) : Int) - 1)) then
                if (wrap64 (((List.length a1 : Nat) : Int) - 1)) < ((List.length a1 : Nat) : Int) then (spec_LoadCell k (a3, ((a4, a5), (wrap64 ((List.getD a1 (Int.toNat (wrap64 (((List.length a1 : Nat) : Int) - 1))) 0) + (List.getD a2 (Int.toNat a0) (0, 0)).2))))).bind fun v10 =>
                 if v10.2 = true then
                  (spec_l04Mod k v10.1).bind fun v11 =>
                  if (((List.length (([] : List Int) ++ (List.drop (Int.toNat 0) (List.take (Int.toNat (wrap64 (((List.length a1 : Nat) : Int) - v5.1))) a1))) + List.length [v11] : Nat) : Int) * ((8 : Nat) : Int)) ≤ 140737488355328 then
                   if 8 < (wrap64 ((wrap64 (((List.length a1 : Nat) : Int) - v5.1)) + v5.2)) then
                    (spec_l04Copy k a3).bind fun v12 =>
                    some (v0, (v12, (0, (0, (0, 4)))))
                   else
                    if 60 < (wrap64 (a0 + 1)) then
                     some ((60, ((([] : List Int) ++ (List.drop (Int.toNat 0) (List.take (Int.toNat (wrap64 (((List.length a1 : Nat) : Int) - v5.1))) a1))) ++ [v11])), (v7, (0, (0, (0, 0)))))
                    else
                     some (((wrap64 (a0 + 1)), ((([] : List Int) ++ (List.drop (Int.toNat 0) (List.take (Int.toNat (wrap64 (((List.length a1 : Nat) : Int) - v5.1))) a1))) ++ [v11])), (v7, (0, (0, (0, 0)))))
                  else
                   none
                 else
                  (spec_l04Copy k a3).bind fun v13 =>
                  some (v0, (v13, (0, (0, (0, 2))))) else none
               else
                none
              else
               if (List.getD a2 (Int.toNat a0) (0, 0)).1 = 3 then
                if 0 ≤ (wrap64 (((List.length a1 : Nat) : Int) - 2)) then
                 if (wrap64 (((List.length a1 : Nat) : Int) - 2)) < ((List.length a1 : Nat) : Int) then
                  if 0 ≤ (wrap64 (((List.length a1 : Nat) : Int) - 1)) then
                   if (wrap64 (((List.length a1 : Nat) : Int) - 1)) < ((List.length a1 : Nat) : Int) then (spec_StoreCell k (a3, ((a4, a5), ((wrap64 ((List.getD a1 (Int.toNat (wrap64 (((List.length a1 : Nat) : Int) - 2))) 0) + (List.getD a2 (Int.toNat a0) (0, 0)).2)), (List.getD a1 (Int.toNat (wrap64 (((List.length a1 : Nat) : Int) - 1))) 0))))).bind fun v14 =>
                    if v14.2 = true then
                     if 8 < (wrap64 ((wrap64 (((List.length a1 : Nat) : Int) - v5.1)) + v5.2)) then
                      (spec_l04Copy k a3).bind fun v15 =>
                      some (v0, (v15, (0, (0, (0, 4)))))
                     else
                      if 60 < (wrap64 (a0 + 1)) then
                       some ((60, (([] : List Int) ++ (List.drop (Int.toNat 0) (List.take (Int.toNat (wrap64 (((List.length a1 : Nat) : Int) - v5.1))) a1)))), (v14.1, (0, (0, (0, 0)))))
                      else
                       some (((wrap64 (a0 + 1)), (([] : List Int) ++ (List.drop (Int.toNat 0) (List.take (Int.toNat (wrap64 (((List.length a1 : Nat) : Int) - v5.1))) a1)))), (v14.1, (0, (0, (0, 0)))))
                    else
                     (spec_l04Copy k a3).bind fun v16 =>
                     some (v0, (v16, (0, (0, (0, 2))))) else none
                  else
                   none
                 else
                  none
                else
                 none
               else
                if (List.getD a2 (Int.toNat a0) (0, 0)).1 = 4 then
                 if (List.getD a2 (Int.toNat a0) (0, 0)).1 = 4 then
                  if 0 ≤ (wrap64 (((List.length a1 : Nat) : Int) - 2)) then
                   if (wrap64 (((List.length a1 : Nat) : Int) - 2)) < ((List.length a1 : Nat) : Int) then
                    if 0 ≤ (wrap64 (((List.length a1 : Nat) : Int) - 1)) then
                     if (wrap64 (((List.length a1 : Nat) : Int) - 1)) < ((List.length a1 : Nat) : Int) then (spec_l06Sum k ((List.getD a2 (Int.toNat a0) (0, 0)).1, ((List.getD a1 (Int.toNat (wrap64 (((List.length a1 : Nat) : Int) - 2))) 0), (List.getD a1 (Int.toNat (wrap64 (((List.length a1 : Nat) : Int) - 1))) 0)))).bind fun v17 =>
                      if v17.2 = true then
                       if (((List.length (([] : List Int) ++ (List.drop (Int.toNat 0) (List.take (Int.toNat (wrap64 (((List.length a1 : Nat) : Int) - v5.1))) a1))) + List.length [v17.1] : Nat) : Int) * ((8 : Nat) : Int)) ≤ 140737488355328 then
                        if 8 < (wrap64 ((wrap64 (((List.length a1 : Nat) : Int) - v5.1)) + v5.2)) then
                         (spec_l04Copy k a3).bind fun v18 =>
                         some (v0, (v18, (0, (0, (0, 4)))))
                        else
                         if 60 < (wrap64 (a0 + 1)) then
                          some ((60, ((([] : List Int) ++ (List.drop (Int.toNat 0) (List.take (Int.toNat (wrap64 (((List.length a1 : Nat) : Int) - v5.1))) a1))) ++ [v17.1])), (v7, (0, (0, (0, 0)))))
                         else
                          some (((wrap64 (a0 + 1)), ((([] : List Int) ++ (List.drop (Int.toNat 0) (List.take (Int.toNat (wrap64 (((List.length a1 : Nat) : Int) - v5.1))) a1))) ++ [v17.1])), (v7, (0, (0, (0, 0)))))
                       else
                        none
                      else
                       (spec_l04Copy k a3).bind fun v19 =>
                       some (v0, (v19, (0, (0, (0, 3))))) else none
                    else
                     none
                   else
                    none
                  else
                   none
                 else
                  if (List.getD a2 (Int.toNat a0) (0, 0)).1 = 9 then
                   if 8 < (wrap64 ((wrap64 (((List.length a1 : Nat) : Int) - v5.1)) + v5.2)) then
                    (spec_l04Copy k a3).bind fun v20 =>
                    some (v0, (v20, (0, (0, (0, 4)))))
                   else
                    if 60 < (List.getD a2 (Int.toNat a0) (0, 0)).2 then
                     some ((60, (([] : List Int) ++ (List.drop (Int.toNat 0) (List.take (Int.toNat (wrap64 (((List.length a1 : Nat) : Int) - v5.1))) a1)))), (v7, (0, (0, (0, 0)))))
                    else
                     some (((List.getD a2 (Int.toNat a0) (0, 0)).2, (([] : List Int) ++ (List.drop (Int.toNat 0) (List.take (Int.toNat (wrap64 (((List.length a1 : Nat) : Int) - v5.1))) a1)))), (v7, (0, (0, (0, 0)))))
                  else
                   if (List.getD a2 (Int.toNat a0) (0, 0)).1 = 10 then
                    if 0 ≤ (wrap64 (((List.length a1 : Nat) : Int) - 1)) then
                     if (wrap64 (((List.length a1 : Nat) : Int) - 1)) < ((List.length a1 : Nat) : Int) then
                      if (List.getD a1 (Int.toNat (wrap64 (((List.length a1 : Nat) : Int) - 1))) 0) = 0 then
                       if 8 < (wrap64 ((wrap64 (((List.length a1 : Nat) : Int) - v5.1)) + v5.2)) then
                        (spec_l04Copy k a3).bind fun v21 =>
                        some (v0, (v21, (0, (0, (0, 4)))))
                       else
                        if 60 < (List.getD a2 (Int.toNat a0) (0, 0)).2 then
                         some ((60, (([] : List Int) ++ (List.drop (Int.toNat 0) (List.take (Int.toNat (wrap64 (((List.length a1 : Nat) : Int) - v5.1))) a1)))), (v7, (0, (0, (0, 0)))))
                        else
                         some (((List.getD a2 (Int.toNat a0) (0, 0)).2, (([] : List Int) ++ (List.drop (Int.toNat 0) (List.take (Int.toNat (wrap64 (((List.length a1 : Nat) : Int) - v5.1))) a1)))), (v7, (0, (0, (0, 0)))))
                      else
                       if 8 < (wrap64 ((wrap64 (((List.length a1 : Nat) : Int) - v5.1)) + v5.2)) then
                        (spec_l04Copy k a3).bind fun v22 =>
                        some (v0, (v22, (0, (0, (0, 4)))))
                       else
                        if 60 < (wrap64 (a0 + 1)) then
                         some ((60, (([] : List Int) ++ (List.drop (Int.toNat 0) (List.take (Int.toNat (wrap64 (((List.length a1 : Nat) : Int) - v5.1))) a1)))), (v7, (0, (0, (0, 0)))))
                        else
                         some (((wrap64 (a0 + 1)), (([] : List Int) ++ (List.drop (Int.toNat 0) (List.take (Int.toNat (wrap64 (((List.length a1 : Nat) : Int) - v5.1))) a1)))), (v7, (0, (0, (0, 0)))))
                     else
                      none
                    else
                     none
                   else
                    if (List.getD a2 (Int.toNat a0) (0, 0)).1 = 11 then
                     if 0 ≤ (wrap64 (((List.length a1 : Nat) : Int) - 1)) then
                      if (wrap64 (((List.length a1 : Nat) : Int) - 1)) < ((List.length a1 : Nat) : Int) then
                       if 0 ≤ (wrap64 (((List.length a1 : Nat) : Int) - 1)) then
                        if (wrap64 (((List.length a1 : Nat) : Int) - 1)) < ((List.length a1 : Nat) : Int) then
                         if (((List.length (([] : List Int) ++ (List.drop (Int.toNat 0) (List.take (Int.toNat (wrap64 (((List.length a1 : Nat) : Int) - v5.1))) a1))) + List.length [(List.getD a1 (Int.toNat (wrap64 (((List.length a1 : Nat) : Int) - 1))) 0), (List.getD a1 (Int.toNat (wrap64 (((List.length a1 : Nat) : Int) - 1))) 0)] : Nat) : Int) * ((8 : Nat) : Int)) ≤ 140737488355328 then
                          if 8 < (wrap64 ((wrap64 (((List.length a1 : Nat) : Int) - v5.1)) + v5.2)) then
                           (spec_l04Copy k a3).bind fun v23 =>
                           some (v0, (v23, (0, (0, (0, 4)))))
                          else
                           if 60 < (wrap64 (a0 + 1)) then
                            some ((60, ((([] : List Int) ++ (List.drop (Int.toNat 0) (List.take (Int.toNat (wrap64 (((List.length a1 : Nat) : Int) - v5.1))) a1))) ++ [(List.getD a1 (Int.toNat (wrap64 (((List.length a1 : Nat) : Int) - 1))) 0), (List.getD a1 (Int.toNat (wrap64 (((List.length a1 : Nat) : Int) - 1))) 0)])), (v7, (0, (0, (0, 0)))))
                           else
                            some (((wrap64 (a0 + 1)), ((([] : List Int) ++ (List.drop (Int.toNat 0) (List.take (Int.toNat (wrap64 (((List.length a1 : Nat) : Int) - v5.1))) a1))) ++ [(List.getD a1 (Int.toNat (wrap64 (((List.length a1 : Nat) : Int) - 1))) 0), (List.getD a1 (Int.toNat (wrap64 (((List.length a1 : Nat) : Int) - 1))) 0)])), (v7, (0, (0, (0, 0)))))
                         else
                          none
                        else
                         none
                       else
                        none
                      else
                       none
                     else
                      none
                    else
                     if (List.getD a2 (Int.toNat a0) (0, 0)).1 = 13 then
                      if (List.getD a2 (Int.toNat a0) (0, 0)).1 = 13 then
                       if 0 ≤ (wrap64 (((List.length a1 : Nat) : Int) - 1)) then
                        if (wrap64 (((List.length a1 : Nat) : Int) - 1)) < ((List.length a1 : Nat) : Int) then
                         if 8 < (wrap64 ((wrap64 (((List.length a1 : Nat) : Int) - v5.1)) + v5.2)) then
                          (spec_l04Copy k a3).bind fun v24 =>
                          some (v0, (v24, (0, (0, (0, 4)))))
                         else
                          if 60 < (wrap64 (a0 + 1)) then
                           some ((60, (([] : List Int) ++ (List.drop (Int.toNat 0) (List.take (Int.toNat (wrap64 (((List.length a1 : Nat) : Int) - v5.1))) a1)))), (v7, ((List.getD a2 (Int.toNat a0) (0, 0)).1, ((List.getD a2 (Int.toNat a0) (0, 0)).2, ((List.getD a1 (Int.toNat (wrap64 (((List.length a1 : Nat) : Int) - 1))) 0), 0)))))
                          else
                           some (((wrap64 (a0 + 1)), (([] : List Int) ++ (List.drop (Int.toNat 0) (List.take (Int.toNat (wrap64 (((List.length a1 : Nat) : Int) - v5.1))) a1)))), (v7, ((List.getD a2 (Int.toNat a0) (0, 0)).1, ((List.getD a2 (Int.toNat a0) (0, 0)).2, ((List.getD a1 (Int.toNat (wrap64 (((List.length a1 : Nat) : Int) - 1))) 0), 0)))))
                        else
                         none
                       else
                        none
                      else
                       if (List.getD a2 (Int.toNat a0) (0, 0)).1 = 14 then
                        if (List.getD a2 (Int.toNat a0) (0, 0)).1 = 14 then
                         if 8 < (wrap64 ((wrap64 (((List.length a1 : Nat) : Int) - v5.1)) + v5.2)) then
                          (spec_l04Copy k a3).bind fun v25 =>
                          some (v0, (v25, (0, (0, (0, 4)))))
                         else
                          if 60 < (wrap64 (a0 + 1)) then
                           some ((60, (([] : List Int) ++ (List.drop (Int.toNat 0) (List.take (Int.toNat (wrap64 (((List.length a1 : Nat) : Int) - v5.1))) a1)))), (v7, ((List.getD a2 (Int.toNat a0) (0, 0)).1, ((List.getD a2 (Int.toNat a0) (0, 0)).2, (0, 0)))))
                          else
                           some (((wrap64 (a0 + 1)), (([] : List Int) ++ (List.drop (Int.toNat 0) (List.take (Int.toNat (wrap64 (((List.length a1 : Nat) : Int) - v5.1))) a1)))), (v7, ((List.getD a2 (Int.toNat a0) (0, 0)).1, ((List.getD a2 (Int.toNat a0) (0, 0)).2, (0, 0)))))
                        else
                         if (List.getD a2 (Int.toNat a0) (0, 0)).1 = 17 then
                          (spec_l04Mod k a6).bind fun v26 =>
                          if (((List.length (([] : List Int) ++ (List.drop (Int.toNat 0) (List.take (Int.toNat (wrap64 (((List.length a1 : Nat) : Int) - v5.1))) a1))) + List.length [v26] : Nat) : Int) * ((8 : Nat) : Int)) ≤ 140737488355328 then
                           if 8 < (wrap64 ((wrap64 (((List.length a1 : Nat) : Int) - v5.1)) + v5.2)) then
                            (spec_l04Copy k a3).bind fun v27 =>
                            some (v0, (v27, (0, (0, (0, 4)))))
                           else
                            if 60 < (wrap64 (a0 + 1)) then
                             some ((60, ((([] : List Int) ++ (List.drop (Int.toNat 0) (List.take (Int.toNat (wrap64 (((List.length a1 : Nat) : Int) - v5.1))) a1))) ++ [v26])), (v7, (0, (0, (0, 0)))))
                            else
                             some (((wrap64 (a0 + 1)), ((([] : List Int) ++ (List.drop (Int.toNat 0) (List.take (Int.toNat (wrap64 (((List.length a1 : Nat) : Int) - v5.1))) a1))) ++ [v26])), (v7, (0, (0, (0, 0)))))
                          else
                           none
                         else
                          if 8 < (wrap64 ((wrap64 (((List.length a1 : Nat) : Int) - v5.1)) + v5.2)) then
                           (spec_l04Copy k a3).bind fun v28 =>
                           some (v0, (v28, (0, (0, (0, 4)))))
                          else
                           if 60 < (wrap64 (a0 + 1)) then
                            some ((60, (([] : List Int) ++ (List.drop (Int.toNat 0) (List.take (Int.toNat (wrap64 (((List.length a1 : Nat) : Int) - v5.1))) a1)))), (v7, (0, (0, (0, 0)))))
                           else
                            some (((wrap64 (a0 + 1)), (([] : List Int) ++ (List.drop (Int.toNat 0) (List.take (Int.toNat (wrap64 (((List.length a1 : Nat) : Int) - v5.1))) a1)))), (v7, (0, (0, (0, 0)))))
                       else
                        if (List.getD a2 (Int.toNat a0) (0, 0)).1 = 15 then
                         if 8 < (wrap64 ((wrap64 (((List.length a1 : Nat) : Int) - v5.1)) + v5.2)) then
                          (spec_l04Copy k a3).bind fun v29 =>
                          some (v0, (v29, (0, (0, (0, 4)))))
                         else
                          if 60 < (wrap64 (a0 + 1)) then
                           some ((60, (([] : List Int) ++ (List.drop (Int.toNat 0) (List.take (Int.toNat (wrap64 (((List.length a1 : Nat) : Int) - v5.1))) a1)))), (v7, ((List.getD a2 (Int.toNat a0) (0, 0)).1, ((List.getD a2 (Int.toNat a0) (0, 0)).2, (0, 0)))))
                          else
                           some (((wrap64 (a0 + 1)), (([] : List Int) ++ (List.drop (Int.toNat 0) (List.take (Int.toNat (wrap64 (((List.length a1 : Nat) : Int) - v5.1))) a1)))), (v7, ((List.getD a2 (Int.toNat a0) (0, 0)).1, ((List.getD a2 (Int.toNat a0) (0, 0)).2, (0, 0)))))
                        else
                         if (List.getD a2 (Int.toNat a0) (0, 0)).1 = 17 then
                          (spec_l04Mod k a6).bind fun v30 =>
                          if (((List.length (([] : List Int) ++ (List.drop (Int.toNat 0) (List.take (Int.toNat (wrap64 (((List.length a1 : Nat) : Int) - v5.1))) a1))) + List.length [v30] : Nat) : Int) * ((8 : Nat) : Int)) ≤ 140737488355328 then
                           if 8 < (wrap64 ((wrap64 (((List.length a1 : Nat) : Int) - v5.1)) + v5.2)) then
                            (spec_l04Copy k a3).bind fun v31 =>
                            some (v0, (v31, (0, (0, (0, 4)))))
                           else
                            if 60 < (wrap64 (a0 + 1)) then
                             some ((60, ((([] : List Int) ++ (List.drop (Int.toNat 0) (List.take (Int.toNat (wrap64 (((List.length a1 : Nat) : Int) - v5.1))) a1))) ++ [v30])), (v7, (0, (0, (0, 0)))))
                            else
                             some (((wrap64 (a0 + 1)), ((([] : List Int) ++ (List.drop (Int.toNat 0) (List.take (Int.toNat (wrap64 (((List.length a1 : Nat) : Int) - v5.1))) a1))) ++ [v30])), (v7, (0, (0, (0, 0)))))
                          else
                           none
                         else
                          if 8 < (wrap64 ((wrap64 (((List.length a1 : Nat) : Int) - v5.1)) + v5.2)) then
                           (spec_l04Copy k a3).bind fun v32 =>
                           some (v0, (v32, (0, (0, (0, 4)))))
                          else
                           if 60 < (wrap64 (a0 + 1)) then
                            some ((60, (([] : List Int) ++ (List.drop (Int.toNat 0) (List.take (Int.toNat (wrap64 (((List.length a1 : Nat) : Int) - v5.1))) a1)))), (v7, (0, (0, (0, 0)))))
                           else
                            some (((wrap64 (a0 + 1)), (([] : List Int) ++ (List.drop (Int.toNat 0) (List.take (Int.toNat (wrap64 (((List.length a1 : Nat) : Int) - v5.1))) a1)))), (v7, (0, (0, (0, 0)))))
                     else
                      if (List.getD a2 (Int.toNat a0) (0, 0)).1 = 16 then
                       if 0 ≤ (wrap64 (((List.length a1 : Nat) : Int) - 1)) then
                        if (wrap64 (((List.length a1 : Nat) : Int) - 1)) < ((List.length a1 : Nat) : Int) then
                         if 8 < (wrap64 ((wrap64 (((List.length a1 : Nat) : Int) - v5.1)) + v5.2)) then
                          (spec_l04Copy k a3).bind fun v33 =>
                          some (v0, (v33, (0, (0, (0, 4)))))
                         else
                          if 60 < (wrap64 (a0 + 1)) then
                           some ((60, (([] : List Int) ++ (List.drop (Int.toNat 0) (List.take (Int.toNat (wrap64 (((List.length a1 : Nat) : Int) - v5.1))) a1)))), (v7, ((List.getD a2 (Int.toNat a0) (0, 0)).1, ((List.getD a2 (Int.toNat a0) (0, 0)).2, ((List.getD a1 (Int.toNat (wrap64 (((List.length a1 : Nat) : Int) - 1))) 0), 0)))))
                          else
                           some (((wrap64 (a0 + 1)), (([] : List Int) ++ (List.drop (Int.toNat 0) (List.take (Int.toNat (wrap64 (((List.length a1 : Nat) : Int) - v5.1))) a1)))), (v7, ((List.getD a2 (Int.toNat a0) (0, 0)).1, ((List.getD a2 (Int.toNat a0) (0, 0)).2, ((List.getD a1 (Int.toNat (wrap64 (((List.length a1 : Nat) : Int) - 1))) 0), 0)))))
                        else
                         none
                       else
                        none
                      else
                       if (List.getD a2 (Int.toNat a0) (0, 0)).1 = 14 then
                        if (List.getD a2 (Int.toNat a0) (0, 0)).1 = 14 then
                         if 8 < (wrap64 ((wrap64 (((List.length a1 : Nat) : Int) - v5.1)) + v5.2)) then
                          (spec_l04Copy k a3).bind fun v34 =>
                          some (v0, (v34, (0, (0, (0, 4)))))
                         else
                          if 60 < (wrap64 (a0 + 1)) then
                           some ((60, (([] : List Int) ++ (List.drop (Int.toNat 0) (List.take (Int.toNat (wrap64 (((List.length a1 : Nat) : Int) - v5.1))) a1)))), (v7, ((List.getD a2 (Int.toNat a0) (0, 0)).1, ((List.getD a2 (Int.toNat a0) (0, 0)).2, (0, 0)))))
                          else
                           some (((wrap64 (a0 + 1)), (([] : List Int) ++ (List.drop (Int.toNat 0) (List.take (Int.toNat (wrap64 (((List.length a1 : Nat) : Int) - v5.1))) a1)))), (v7, ((List.getD a2 (Int.toNat a0) (0, 0)).1, ((List.getD a2 (Int.toNat a0) (0, 0)).2, (0, 0)))))
                        else
                         if (List.getD a2 (Int.toNat a0) (0, 0)).1 = 17 then
                          (spec_l04Mod k a6).bind fun v35 =>
                          if (((List.length (([] : List Int) ++ (List.drop (Int.toNat 0) (List.take (Int.toNat (wrap64 (((List.length a1 : Nat) : Int) - v5.1))) a1))) + List.length [v35] : Nat) : Int) * ((8 : Nat) : Int)) ≤ 140737488355328 then
                           if 8 < (wrap64 ((wrap64 (((List.length a1 : Nat) : Int) - v5.1)) + v5.2)) then
                            (spec_l04Copy k a3).bind fun v36 =>
                            some (v0, (v36, (0, (0, (0, 4)))))
                           else
                            if 60 < (wrap64 (a0 + 1)) then
                             some ((60, ((([] : List Int) ++ (List.drop (Int.toNat 0) (List.take (Int.toNat (wrap64 (((List.length a1 : Nat) : Int) - v5.1))) a1))) ++ [v35])), (v7, (0, (0, (0, 0)))))
                            else
                             some (((wrap64 (a0 + 1)), ((([] : List Int) ++ (List.drop (Int.toNat 0) (List.take (Int.toNat (wrap64 (((List.length a1 : Nat) : Int) - v5.1))) a1))) ++ [v35])), (v7, (0, (0, (0, 0)))))
                          else
                           none
                         else
                          if 8 < (wrap64 ((wrap64 (((List.length a1 : Nat) : Int) - v5.1)) + v5.2)) then
                           (spec_l04Copy k a3).bind fun v37 =>
                           some (v0, (v37, (0, (0, (0, 4)))))
                          else
                           if 60 < (wrap64 (a0 + 1)) then
                            some ((60, (([] : List Int) ++ (List.drop (Int.toNat 0) (List.take (Int.toNat (wrap64 (((List.length a1 : Nat) : Int) - v5.1))) a1)))), (v7, (0, (0, (0, 0)))))
                           else
                            some (((wrap64 (a0 + 1)), (([] : List Int) ++ (List.drop (Int.toNat 0) (List.take (Int.toNat (wrap64 (((List.length a1 : Nat) : Int) - v5.1))) a1)))), (v7, (0, (0, (0, 0)))))
                       else
                        if (List.getD a2 (Int.toNat a0) (0, 0)).1 = 15 then
                         if 8 < (wrap64 ((wrap64 (((List.length a1 : Nat) : Int) - v5.1)) + v5.2)) then
                          (spec_l04Copy k a3).bind fun v38 =>
                          some (v0, (v38, (0, (0, (0, 4)))))
                         else
                          if 60 < (wrap64 (a0 + 1)) then
                           some ((60, (([] : List Int) ++ (List.drop (Int.toNat 0) (List.take (Int.toNat (wrap64 (((List.length a1 : Nat) : Int) - v5.1))) a1)))), (v7, ((List.getD a2 (Int.toNat a0) (0, 0)).1, ((List.getD a2 (Int.toNat a0) (0, 0)).2, (0, 0)))))
                          else
                           some (((wrap64 (a0 + 1)), (([] : List Int) ++ (List.drop (Int.toNat 0) (List.take (Int.toNat (wrap64 (((List.length a1 : Nat) : Int) - v5.1))) a1)))), (v7, ((List.getD a2 (Int.toNat a0) (0, 0)).1, ((List.getD a2 (Int.toNat a0) (0, 0)).2, (0, 0)))))
                        else
                         if (List.getD a2 (Int.toNat a0) (0, 0)).1 = 17 then
                          (spec_l04Mod k a6).bind fun v39 =>
                          if (((List.length (([] : List Int) ++ (List.drop (Int.toNat 0) (List.take (Int.toNat (wrap64 (((List.length a1 : Nat) : Int) - v5.1))) a1))) + List.length [v39] : Nat) : Int) * ((8 : Nat) : Int)) ≤ 140737488355328 then
                           if 8 < (wrap64 ((wrap64 (((List.length a1 : Nat) : Int) - v5.1)) + v5.2)) then
                            (spec_l04Copy k a3).bind fun v40 =>
                            some (v0, (v40, (0, (0, (0, 4)))))
                           else
                            if 60 < (wrap64 (a0 + 1)) then
                             some ((60, ((([] : List Int) ++ (List.drop (Int.toNat 0) (List.take (Int.toNat (wrap64 (((List.length a1 : Nat) : Int) - v5.1))) a1))) ++ [v39])), (v7, (0, (0, (0, 0)))))
                            else
                             some (((wrap64 (a0 + 1)), ((([] : List Int) ++ (List.drop (Int.toNat 0) (List.take (Int.toNat (wrap64 (((List.length a1 : Nat) : Int) - v5.1))) a1))) ++ [v39])), (v7, (0, (0, (0, 0)))))
                          else
                           none
                         else
                          if 8 < (wrap64 ((wrap64 (((List.length a1 : Nat) : Int) - v5.1)) + v5.2)) then
                           (spec_l04Copy k a3).bind fun v41 =>
                           some (v0, (v41, (0, (0, (0, 4)))))
                          else
                           if 60 < (wrap64 (a0 + 1)) then
                            some ((60, (([] : List Int) ++ (List.drop (Int.toNat 0) (List.take (Int.toNat (wrap64 (((List.length a1 : Nat) : Int) - v5.1))) a1)))), (v7, (0, (0, (0, 0)))))
                           else
                            some (((wrap64 (a0 + 1)), (([] : List Int) ++ (List.drop (Int.toNat 0) (List.take (Int.toNat (wrap64 (((List.length a1 : Nat) : Int) - v5.1))) a1)))), (v7, (0, (0, (0, 0)))))
                else
                 if (List.getD a2 (Int.toNat a0) (0, 0)).1 = 5 then
                  if (List.getD a2 (Int.toNat a0) (0, 0)).1 = 5 then
                   if 0 ≤ (wrap64 (((List.length a1 : Nat) : Int) - 2)) then
                    if (wrap64 (((List.length a1 : Nat) : Int) - 2)) < ((List.length a1 : Nat) : Int) then
                     if 0 ≤ (wrap64 (((List.length a1 : Nat) : Int) - 1)) then
                      if (wrap64 (((List.length a1 : Nat) : Int) - 1)) < ((List.length a1 : Nat) : Int) then (spec_l06Sum k ((List.getD a2 (Int.toNat a0) (0, 0)).1, ((List.getD a1 (Int.toNat (wrap64 (((List.length a1 : Nat) : Int) - 2))) 0), (List.getD a1 (Int.toNat (wrap64 (((List.length a1 : Nat) : Int) - 1))) 0)))).bind fun v42 =>
                       if v42.2 = true then
                        if (((List.length (([] : List Int) ++ (List.drop (Int.toNat 0) (List.take (Int.toNat (wrap64 (((List.length a1 : Nat) : Int) - v5.1))) a1))) + List.length [v42.1] : Nat) : Int) * ((8 : Nat) : Int)) ≤ 140737488355328 then
                         if 8 < (wrap64 ((wrap64 (((List.length a1 : Nat) : Int) - v5.1)) + v5.2)) then
                          (spec_l04Copy k a3).bind fun v43 =>
                          some (v0, (v43, (0, (0, (0, 4)))))
                         else
                          if 60 < (wrap64 (a0 + 1)) then
                           some ((60, ((([] : List Int) ++ (List.drop (Int.toNat 0) (List.take (Int.toNat (wrap64 (((List.length a1 : Nat) : Int) - v5.1))) a1))) ++ [v42.1])), (v7, (0, (0, (0, 0)))))
                          else
                           some (((wrap64 (a0 + 1)), ((([] : List Int) ++ (List.drop (Int.toNat 0) (List.take (Int.toNat (wrap64 (((List.length a1 : Nat) : Int) - v5.1))) a1))) ++ [v42.1])), (v7, (0, (0, (0, 0)))))
                        else
                         none
                       else
                        (spec_l04Copy k a3).bind fun v44 =>
                        some (v0, (v44, (0, (0, (0, 3))))) else none
                     else
                      none
                    else
                     none
                   else
                    none
                  else
                   if (List.getD a2 (Int.toNat a0) (0, 0)).1 = 9 then
                    if 8 < (wrap64 ((wrap64 (((List.length a1 : Nat) : Int) - v5.1)) + v5.2)) then
                     (spec_l04Copy k a3).bind fun v45 =>
                     some (v0, (v45, (0, (0, (0, 4)))))
                    else
                     if 60 < (List.getD a2 (Int.toNat a0) (0, 0)).2 then
                      some ((60, (([] : List Int) ++ (List.drop (Int.toNat 0) (List.take (Int.toNat (wrap64 (((List.length a1 : Nat) : Int) - v5.1))) a1)))), (v7, (0, (0, (0, 0)))))
                     else
                      some (((List.getD a2 (Int.toNat a0) (0, 0)).2, (([] : List Int) ++ (List.drop (Int.toNat 0) (List.take (Int.toNat (wrap64 (((List.length a1 : Nat) : Int) - v5.1))) a1)))), (v7, (0, (0, (0, 0)))))
                   else
                    if (List.getD a2 (Int.toNat a0) (0, 0)).1 = 10 then
                     if 0 ≤ (wrap64 (((List.length a1 : Nat) : Int) - 1)) then
                      if (wrap64 (((List.length a1 : Nat) : Int) - 1)) < ((List.length a1 : Nat) : Int) then
                       if (List.getD a1 (Int.toNat (wrap64 (((List.length a1 : Nat) : Int) - 1))) 0) = 0 then
                        if 8 < (wrap64 ((wrap64 (((List.length a1 : Nat) : Int) - v5.1)) + v5.2)) then
                         (spec_l04Copy k a3).bind fun v46 =>
                         some (v0, (v46, (0, (0, (0, 4)))))
                        else
                         if 60 < (List.getD a2 (Int.toNat a0) (0, 0)).2 then
                          some ((60, (([] : List Int) ++ (List.drop (Int.toNat 0) (List.take (Int.toNat (wrap64 (((List.length a1 : Nat) : Int) - v5.1))) a1)))), (v7, (0, (0, (0, 0)))))
                         else
                          some (((List.getD a2 (Int.toNat a0) (0, 0)).2, (([] : List Int) ++ (List.drop (Int.toNat 0) (List.take (Int.toNat (wrap64 (((List.length a1 : Nat) : Int) - v5.1))) a1)))), (v7, (0, (0, (0, 0)))))
                       else
                        if 8 < (wrap64 ((wrap64 (((List.length a1 : Nat) : Int) - v5.1)) + v5.2)) then
                         (spec_l04Copy k a3).bind fun v47 =>
                         some (v0, (v47, (0, (0, (0, 4)))))
                        else
                         if 60 < (wrap64 (a0 + 1)) then
                          some ((60, (([] : List Int) ++ (List.drop (Int.toNat 0) (List.take (Int.toNat (wrap64 (((List.length a1 : Nat) : Int) - v5.1))) a1)))), (v7, (0, (0, (0, 0)))))
                         else
                          some (((wrap64 (a0 + 1)), (([] : List Int) ++ (List.drop (Int.toNat 0) (List.take (Int.toNat (wrap64 (((List.length a1 : Nat) : Int) - v5.1))) a1)))), (v7, (0, (0, (0, 0)))))
                      else
                       none
                     else
                      none
                    else
                     if (List.getD a2 (Int.toNat a0) (0, 0)).1 = 11 then
                      if 0 ≤ (wrap64 (((List.length a1 : Nat) : Int) - 1)) then
                       if (wrap64 (((List.length a1 : Nat) : Int) - 1)) < ((List.length a1 : Nat) : Int) then
                        if 0 ≤ (wrap64 (((List.length a1 : Nat) : Int) - 1)) then
                         if (wrap64 (((List.length a1 : Nat) : Int) - 1)) < ((List.length a1 : Nat) : Int) then
                          if (((List.length (([] : List Int) ++ (List.drop (Int.toNat 0) (List.take (Int.toNat (wrap64 (((List.length a1 : Nat) : Int) - v5.1))) a1))) + List.length [(List.getD a1 (Int.toNat (wrap64 (((List.length a1 : Nat) : Int) - 1))) 0), (List.getD a1 (Int.toNat (wrap64 (((List.length a1 : Nat) : Int) - 1))) 0)] : Nat) : Int) * ((8 : Nat) : Int)) ≤ 140737488355328 then
                           if 8 < (wrap64 ((wrap64 (((List.length a1 : Nat) : Int) - v5.1)) + v5.2)) then
                            (spec_l04Copy k a3).bind fun v48 =>
                            some (v0, (v48, (0, (0, (0, 4)))))
                           else
                            if 60 < (wrap64 (a0 + 1)) then
                             some ((60, ((([] : List Int) ++ (List.drop (Int.toNat 0) (List.take (Int.toNat (wrap64 (((List.length a1 : Nat) : Int) - v5.1))) a1))) ++ [(List.getD a1 (Int.toNat (wrap64 (((List.length a1 : Nat) : Int) - 1))) 0), (List.getD a1 (Int.toNat (wrap64 (((List.length a1 : Nat) : Int) - 1))) 0)])), (v7, (0, (0, (0, 0)))))
                            else
                             some (((wrap64 (a0 + 1)), ((([] : List Int) ++ (List.drop (Int.toNat 0) (List.take (Int.toNat (wrap64 (((List.length a1 : Nat) : Int) - v5.1))) a1))) ++ [(List.getD a1 (Int.toNat (wrap64 (((List.length a1 : Nat) : Int) - 1))) 0), (List.getD a1 (Int.toNat (wrap64 (((List.length a1 : Nat) : Int) - 1))) 0)])), (v7, (0, (0, (0, 0)))))
                          else
                           none
                         else
                          none
                        else
                         none
                       else
                        none
                      else
                       none
                     else
                      if (List.getD a2 (Int.toNat a0) (0, 0)).1 = 13 then
                       if (List.getD a2 (Int.toNat a0) (0, 0)).1 = 13 then
                        if 0 ≤ (wrap64 (((List.length a1 : Nat) : Int) - 1)) then
                         if (wrap64 (((List.length a1 : Nat) : Int) - 1)) < ((List.length a1 : Nat) : Int) then
                          if 8 < (wrap64 ((wrap64 (((List.length a1 : Nat) : Int) - v5.1)) + v5.2)) then
                           (spec_l04Copy k a3).bind fun v49 =>
                           some (v0, (v49, (0, (0, (0, 4)))))
                          else
                           if 60 < (wrap64 (a0 + 1)) then
                            some ((60, (([] : List Int) ++ (List.drop (Int.toNat 0) (List.take (Int.toNat (wrap64 (((List.length a1 : Nat) : Int) - v5.1))) a1)))), (v7, ((List.getD a2 (Int.toNat a0) (0, 0)).1, ((List.getD a2 (Int.toNat a0) (0, 0)).2, ((List.getD a1 (Int.toNat (wrap64 (((List.length a1 : Nat) : Int) - 1))) 0), 0)))))
                           else
                            some (((wrap64 (a0 + 1)), (([] : List Int) ++ (List.drop (Int.toNat 0) (List.take (Int.toNat (wrap64 (((List.length a1 : Nat) : Int) - v5.1))) a1)))), (v7, ((List.getD a2 (Int.toNat a0) (0, 0)).1, ((List.getD a2 (Int.toNat a0) (0, 0)).2, ((List.getD a1 (Int.toNat (wrap64 (((List.length a1 : Nat) : Int) - 1))) 0), 0)))))
                         else
                          none
                        else
                         none
                       else
                        if (List.getD a2 (Int.toNat a0) (0, 0)).1 = 14 then
                         if (List.getD a2 (Int.toNat a0) (0, 0)).1 = 14 then
                          if 8 < (wrap64 ((wrap64 (((List.length a1 : Nat) : Int) - v5.1)) + v5.2)) then
                           (spec_l04Copy k a3).bind fun v50 =>
                           some (v0, (v50, (0, (0, (0, 4)))))
                          else
                           if 60 < (wrap64 (a0 + 1)) then
                            some ((60, (([] : List Int) ++ (List.drop (Int.toNat 0) (List.take (Int.toNat (wrap64 (((List.length a1 : Nat) : Int) - v5.1))) a1)))), (v7, ((List.getD a2 (Int.toNat a0) (0, 0)).1, ((List.getD a2 (Int.toNat a0) (0, 0)).2, (0, 0)))))
                           else
                            some (((wrap64 (a0 + 1)), (([] : List Int) ++ (List.drop (Int.toNat 0) (List.take (Int.toNat (wrap64 (((List.length a1 : Nat) : Int) - v5.1))) a1)))), (v7, ((List.getD a2 (Int.toNat a0) (0, 0)).1, ((List.getD a2 (Int.toNat a0) (0, 0)).2, (0, 0)))))
                         else
                          if (List.getD a2 (Int.toNat a0) (0, 0)).1 = 17 then
                           (spec_l04Mod k a6).bind fun v51 =>
                           if (((List.length (([] : List Int) ++ (List.drop (Int.toNat 0) (List.take (Int.toNat (wrap64 (((List.length a1 : Nat) : Int) - v5.1))) a1))) + List.length [v51] : Nat) : Int) * ((8 : Nat) : Int)) ≤ 140737488355328 then
                            if 8 < (wrap64 ((wrap64 (((List.length a1 : Nat) : Int) - v5.1)) + v5.2)) then
                             (spec_l04Copy k a3).bind fun v52 =>
                             some (v0, (v52, (0, (0, (0, 4)))))
                            else
                             if 60 < (wrap64 (a0 + 1)) then
                              some ((60, ((([] : List Int) ++ (List.drop (Int.toNat 0) (List.take (Int.toNat (wrap64 (((List.length a1 : Nat) : Int) - v5.1))) a1))) ++ [v51])), (v7, (0, (0, (0, 0)))))
                             else
                              some (((wrap64 (a0 + 1)), ((([] : List Int) ++ (List.drop (Int.toNat 0) (List.take (Int.toNat (wrap64 (((List.length a1 : Nat) : Int) - v5.1))) a1))) ++ [v51])), (v7, (0, (0, (0, 0)))))
                           else
                            none
                          else
                           if 8 < (wrap64 ((wrap64 (((List.length a1 : Nat) : Int) - v5.1)) + v5.2)) then
                            (spec_l04Copy k a3).bind fun v53 =>
                            some (v0, (v53, (0, (0, (0, 4)))))
                           else
                            if 60 < (wrap64 (a0 + 1)) then
                             some ((60, (([] : List Int) ++ (List.drop (Int.toNat 0) (List.take (Int.toNat (wrap64 (((List.length a1 : Nat) : Int) - v5.1))) a1)))), (v7, (0, (0, (0, 0)))))
                            else
                             some (((wrap64 (a0 + 1)), (([] : List Int) ++ (List.drop (Int.toNat 0) (List.take (Int.toNat (wrap64 (((List.length a1 : Nat) : Int) - v5.1))) a1)))), (v7, (0, (0, (0, 0)))))
                        else
                         if (List.getD a2 (Int.toNat a0) (0, 0)).1 = 15 then
                          if 8 < (wrap64 ((wrap64 (((List.length a1 : Nat) : Int) - v5.1)) + v5.2)) then
                           (spec_l04Copy k a3).bind fun v54 =>
                           some (v0, (v54, (0, (0, (0, 4)))))
                          else
                           if 60 < (wrap64 (a0 + 1)) then
                            some ((60, (([] : List Int) ++ (List.drop (Int.toNat 0) (List.take (Int.toNat (wrap64 (((List.length a1 : Nat) : Int) - v5.1))) a1)))), (v7, ((List.getD a2 (Int.toNat a0) (0, 0)).1, ((List.getD a2 (Int.toNat a0) (0, 0)).2, (0, 0)))))
                           else
                            some (((wrap64 (a0 + 1)), (([] : List Int) ++ (List.drop (Int.toNat 0) (List.take (Int.toNat (wrap64 (((List.length a1 : Nat) : Int) - v5.1))) a1)))), (v7, ((List.getD a2 (Int.toNat a0) (0, 0)).1, ((List.getD a2 (Int.toNat a0) (0, 0)).2, (0, 0)))))
                         else
                          if (List.getD a2 (Int.toNat a0) (0, 0)).1 = 17 then
                           (spec_l04Mod k a6).bind fun v55 =>
                           if (((List.length (([] : List Int) ++ (List.drop (Int.toNat 0) (List.take (Int.toNat (wrap64 (((List.length a1 : Nat) : Int) - v5.1))) a1))) + List.length [v55] : Nat) : Int) * ((8 : Nat) : Int)) ≤ 140737488355328 then
                            if 8 < (wrap64 ((wrap64 (((List.length a1 : Nat) : Int) - v5.1)) + v5.2)) then
                             (spec_l04Copy k a3).bind fun v56 =>
                             some (v0, (v56, (0, (0, (0, 4)))))
                            else
                             if 60 < (wrap64 (a0 + 1)) then
                              some ((60, ((([] : List Int) ++ (List.drop (Int.toNat 0) (List.take (Int.toNat (wrap64 (((List.length a1 : Nat) : Int) - v5.1))) a1))) ++ [v55])), (v7, (0, (0, (0, 0)))))
                             else
                              some (((wrap64 (a0 + 1)), ((([] : List Int) ++ (List.drop (Int.toNat 0) (List.take (Int.toNat (wrap64 (((List.length a1 : Nat) : Int) - v5.1))) a1))) ++ [v55])), (v7, (0, (0, (0, 0)))))
                           else
                            none
                          else
                           if 8 < (wrap64 ((wrap64 (((List.length a1 : Nat) : Int) - v5.1)) + v5.2)) then
                            (spec_l04Copy k a3).bind fun v57 =>
                            some (v0, (v57, (0, (0, (0, 4)))))
                           else
                            if 60 < (wrap64 (a0 + 1)) then
                             some ((60, (([] : List Int) ++ (List.drop (Int.toNat 0) (List.take (Int.toNat (wrap64 (((List.length a1 : Nat) : Int) - v5.1))) a1)))), (v7, (0, (0, (0, 0)))))
                            else
                             some (((wrap64 (a0 + 1)), (([] : List Int) ++ (List.drop (Int.toNat 0) (List.take (Int.toNat (wrap64 (((List.length a1 : Nat) : Int) - v5.1))) a1)))), (v7, (0, (0, (0, 0)))))
                      else
                       if (List.getD a2 (Int.toNat a0) (0, 0)).1 = 16 then
                        if 0 ≤ (wrap64 (((List.length a1 : Nat) : Int) - 1)) then
                         if (wrap64 (((List.length a1 : Nat) : Int) - 1)) < ((List.length a1 : Nat) : Int) then
                          if 8 < (wrap64 ((wrap64 (((List.length a1 : Nat) : Int) - v5.1)) + v5.2)) then
                           (spec_l04Copy k a3).bind fun v58 =>
                           some (v0, (v58, (0, (0, (0, 4)))))
                          else
                           if 60 < (wrap64 (a0 + 1)) then
                            some ((60, (([] : List Int) ++ (List.drop (Int.toNat 0) (List.take (Int.toNat (wrap64 (((List.length a1 : Nat) : Int) - v5.1))) a1)))), (v7, ((List.getD a2 (Int.toNat a0) (0, 0)).1, ((List.getD a2 (Int.toNat a0) (0, 0)).2, ((List.getD a1 (Int.toNat (wrap64 (((List.length a1 : Nat) : Int) - 1))) 0), 0)))))
                           else
                            some (((wrap64 (a0 + 1)), (([] : List Int) ++ (List.drop (Int.toNat 0) (List.take (Int.toNat (wrap64 (((List.length a1 : Nat) : Int) - v5.1))) a1)))), (v7, ((List.getD a2 (Int.toNat a0) (0, 0)).1, ((List.getD a2 (Int.toNat a0) (0, 0)).2, ((List.getD a1 (Int.toNat (wrap64 (((List.length a1 : Nat) : Int) - 1))) 0), 0)))))
                         else
                          none
                        else
                         none
                       else
                        if (List.getD a2 (Int.toNat a0) (0, 0)).1 = 14 then
                         if (List.getD a2 (Int.toNat a0) (0, 0)).1 = 14 then
                          if 8 < (wrap64 ((wrap64 (((List.length a1 : Nat) : Int) - v5.1)) + v5.2)) then
                           (spec_l04Copy k a3).bind fun v59 =>
                           some (v0, (v59, (0, (0, (0, 4)))))
                          else
                           if 60 < (wrap64 (a0 + 1)) then
                            some ((60, (([] : List Int) ++ (List.drop (Int.toNat 0) (List.take (Int.toNat (wrap64 (((List.length a1 : Nat) : Int) - v5.1))) a1)))), (v7, ((List.getD a2 (Int.toNat a0) (0, 0)).1, ((List.getD a2 (Int.toNat a0) (0, 0)).2, (0, 0)))))
                           else
                            some (((wrap64 (a0 + 1)), (([] : List Int) ++ (List.drop (Int.toNat 0) (List.take (Int.toNat (wrap64 (((List.length a1 : Nat) : Int) - v5.1))) a1)))), (v7, ((List.getD a2 (Int.toNat a0) (0, 0)).1, ((List.getD a2 (Int.toNat a0) (0, 0)).2, (0, 0)))))
                         else
                          if (List.getD a2 (Int.toNat a0) (0, 0)).1 = 17 then
                           (spec_l04Mod k a6).bind fun v60 =>
                           if (((List.length (([] : List Int) ++ (List.drop (Int.toNat 0) (List.take (Int.toNat (wrap64 (((List.length a1 : Nat) : Int) - v5.1))) a1))) + List.length [v60] : Nat) : Int) * ((8 : Nat) : Int)) ≤ 140737488355328 then
                            if 8 < (wrap64 ((wrap64 (((List.length a1 : Nat) : Int) - v5.1)) + v5.2)) then
                             (spec_l04Copy k a3).bind fun v61 =>
                             some (v0, (v61, (0, (0, (0, 4)))))
                            else
                             if 60 < (wrap64 (a0 + 1)) then
                              some ((60, ((([] : List Int) ++ (List.drop (Int.toNat 0) (List.take (Int.toNat (wrap64 (((List.length a1 : Nat) : Int) - v5.1))) a1))) ++ [v60])), (v7, (0, (0, (0, 0)))))
                             else
                              some (((wrap64 (a0 + 1)), ((([] : List Int) ++ (List.drop (Int.toNat 0) (List.take (Int.toNat (wrap64 (((List.length a1 : Nat) : Int) - v5.1))) a1))) ++ [v60])), (v7, (0, (0, (0, 0)))))
                           else
                            none
                          else
                           if 8 < (wrap64 ((wrap64 (((List.length a1 : Nat) : Int) - v5.1)) + v5.2)) then
                            (spec_l04Copy k a3).bind fun v62 =>
                            some (v0, (v62, (0, (0, (0, 4)))))
                           else
                            if 60 < (wrap64 (a0 + 1)) then
                             some ((60, (([] : List Int) ++ (List.drop (Int.toNat 0) (List.take (Int.toNat (wrap64 (((List.length a1 : Nat) : Int) - v5.1))) a1)))), (v7, (0, (0, (0, 0)))))
                            else
                             some (((wrap64 (a0 + 1)), (([] : List Int) ++ (List.drop (Int.toNat 0) (List.take (Int.toNat (wrap64 (((List.length a1 : Nat) : Int) - v5.1))) a1)))), (v7, (0, (0, (0, 0)))))
                        else
                         if (List.getD a2 (Int.toNat a0) (0, 0)).1 = 15 then
                          if 8 < (wrap64 ((wrap64 (((List.length a1 : Nat) : Int) - v5.1)) + v5.2)) then
                           (spec_l04Copy k a3).bind fun v63 =>
                           some (v0, (v63, (0, (0, (0, 4)))))
                          else
                           if 60 < (wrap64 (a0 + 1)) then
                            some ((60, (([] : List Int) ++ (List.drop (Int.toNat 0) (List.take (Int.toNat (wrap64 (((List.length a1 : Nat) : Int) - v5.1))) a1)))), (v7, ((List.getD a2 (Int.toNat a0) (0, 0)).1, ((List.getD a2 (Int.toNat a0) (0, 0)).2, (0, 0)))))
                           else
                            some (((wrap64 (a0 + 1)), (([] : List Int) ++ (List.drop (Int.toNat 0) (List.take (Int.toNat (wrap64 (((List.length a1 : Nat) : Int) - v5.1))) a1)))), (v7, ((List.getD a2 (Int.toNat a0) (0, 0)).1, ((List.getD a2 (Int.toNat a0) (0, 0)).2, (0, 0)))))
                         else
                          if (List.getD a2 (Int.toNat a0) (0, 0)).1 = 17 then
                           (spec_l04Mod k a6).bind fun v64 =>
                           if (((List.length (([] : List Int) ++ (List.drop (Int.toNat 0) (List.take (Int.toNat (wrap64 (((List.length a1 : Nat) : Int) - v5.1))) a1))) + List.length [v64] : Nat) : Int) * ((8 : Nat) : Int)) ≤ 140737488355328 then
                            if 8 < (wrap64 ((wrap64 (((List.length a1 : Nat) : Int) - v5.1)) + v5.2)) then
                             (spec_l04Copy k a3).bind fun v65 =>
                             some (v0, (v65, (0, (0, (0, 4)))))
                            else
                             if 60 < (wrap64 (a0 + 1)) then
                              some ((60, ((([] : List Int) ++ (List.drop (Int.toNat 0) (List.take (Int.toNat (wrap64 (((List.length a1 : Nat) : Int) - v5.1))) a1))) ++ [v64])), (v7, (0, (0, (0, 0)))))
                             else
                              some (((wrap64 (a0 + 1)), ((([] : List Int) ++ (List.drop (Int.toNat 0) (List.take (Int.toNat (wrap64 (((List.length a1 : Nat) : Int) - v5.1))) a1))) ++ [v64])), (v7, (0, (0, (0, 0)))))
                           else
                            none
                          else
                           if 8 < (wrap64 ((wrap64 (((List.length a1 : Nat) : Int) - v5.1)) + v5.2)) then
                            (spec_l04Copy k a3).bind fun v66 =>
                            some (v0, (v66, (0, (0, (0, 4)))))
                           else
                            if 60 < (wrap64 (a0 + 1)) then
                             some ((60, (([] : List Int) ++ (List.drop (Int.toNat 0) (List.take (Int.toNat (wrap64 (((List.length a1 : Nat) : Int) - v5.1))) a1)))), (v7, (0, (0, (0, 0)))))
                            else
                             some (((wrap64 (a0 + 1)), (([] : List Int) ++ (List.drop (Int.toNat 0) (List.take (Int.toNat (wrap64 (((List.length a1 : Nat) : Int) - v5.1))) a1)))), (v7, (0, (0, (0, 0)))))
                 else
                  if (List.getD a2 (Int.toNat a0) (0, 0)).1 = 6 then
                   if (List.getD a2 (Int.toNat a0) (0, 0)).1 = 6 then
                    if 0 ≤ (wrap64 (((List.length a1 : Nat) : Int) - 2)) then
                     if (wrap64 (((List.length a1 : Nat) : Int) - 2)) < ((List.length a1 : Nat) : Int) then
                      if 0 ≤ (wrap64 (((List.length a1 : Nat) : Int) - 1)) then
                       if (wrap64 (((List.length a1 : Nat) : Int) - 1)) < ((List.length a1 : Nat) : Int) then (spec_l06Sum k ((List.getD a2 (Int.toNat a0) (0, 0)).1, ((List.getD a1 (Int.toNat (wrap64 (((List.length a1 : Nat) : Int) - 2))) 0), (List.getD a1 (Int.toNat (wrap64 (((List.length a1 : Nat) : Int) - 1))) 0)))).bind fun v67 =>
                        if v67.2 = true then
                         if (((List.length (([] : List Int) ++ (List.drop (Int.toNat 0) (List.take (Int.toNat (wrap64 (((List.length a1 : Nat) : Int) - v5.1))) a1))) + List.length [v67.1] : Nat) : Int) * ((8 : Nat) : Int)) ≤ 140737488355328 then
                          if 8 < (wrap64 ((wrap64 (((List.length a1 : Nat) : Int) - v5.1)) + v5.2)) then
                           (spec_l04Copy k a3).bind fun v68 =>
                           some (v0, (v68, (0, (0, (0, 4)))))
                          else
                           if 60 < (wrap64 (a0 + 1)) then
                            some ((60, ((([] : List Int) ++ (List.drop (Int.toNat 0) (List.take (Int.toNat (wrap64 (((List.length a1 : Nat) : Int) - v5.1))) a1))) ++ [v67.1])), (v7, (0, (0, (0, 0)))))
                           else
                            some (((wrap64 (a0 + 1)), ((([] : List Int) ++ (List.drop (Int.toNat 0) (List.take (Int.toNat (wrap64 (((List.length a1 : Nat) : Int) - v5.1))) a1))) ++ [v67.1])), (v7, (0, (0, (0, 0)))))
                         else
                          none
                        else
                         (spec_l04Copy k a3).bind fun v69 =>
                         some (v0, (v69, (0, (0, (0, 3))))) else none
                      else
                       none
                     else
                      none
                    else
                     none
                   else
                    if (List.getD a2 (Int.toNat a0) (0, 0)).1 = 9 then
                     if 8 < (wrap64 ((wrap64 (((List.length a1 : Nat) : Int) - v5.1)) + v5.2)) then
                      (spec_l04Copy k a3).bind fun v70 =>
                      some (v0, (v70, (0, (0, (0, 4)))))
                     else
                      if 60 < (List.getD a2 (Int.toNat a0) (0, 0)).2 then
                       some ((60, (([] : List Int) ++ (List.drop (Int.toNat 0) (List.take (Int.toNat (wrap64 (((List.length a1 : Nat) : Int) - v5.1))) a1)))), (v7, (0, (0, (0, 0)))))
                      else
                       some (((List.getD a2 (Int.toNat a0) (0, 0)).2, (([] : List Int) ++ (List.drop (Int.toNat 0) (List.take (Int.toNat (wrap64 (((List.length a1 : Nat) : Int) - v5.1))) a1)))), (v7, (0, (0, (0, 0)))))
                    else
                     if (List.getD a2 (Int.toNat a0) (0, 0)).1 = 10 then
                      if 0 ≤ (wrap64 (((List.length a1 : Nat) : Int) - 1)) then
                       if (wrap64 (((List.length a1 : Nat) : Int) - 1)) < ((List.length a1 : Nat) : Int) then
                        if (List.getD a1 (Int.toNat (wrap64 (((List.length a1 : Nat) : Int) - 1))) 0) = 0 then
                         if 8 < (wrap64 ((wrap64 (((List.length a1 : Nat) : Int) - v5.1)) + v5.2)) then
                          (spec_l04Copy k a3).bind fun v71 =>
                          some (v0, (v71, (0, (0, (0, 4)))))
                         else
                          if 60 < (List.getD a2 (Int.toNat a0) (0, 0)).2 then
                           some ((60, (([] : List Int) ++ (List.drop (Int.toNat 0) (List.take (Int.toNat (wrap64 (((List.length a1 : Nat) : Int) - v5.1))) a1)))), (v7, (0, (0, (0, 0)))))
                          else
                           some (((List.getD a2 (Int.toNat a0) (0, 0)).2, (([] : List Int) ++ (List.drop (Int.toNat 0) (List.take (Int.toNat (wrap64 (((List.length a1 : Nat) : Int) - v5.1))) a1)))), (v7, (0, (0, (0, 0)))))
                        else
                         if 8 < (wrap64 ((wrap64 (((List.length a1 : Nat) : Int) - v5.1)) + v5.2)) then
                          (spec_l04Copy k a3).bind fun v72 =>
                          some (v0, (v72, (0, (0, (0, 4)))))
                         else
                          if 60 < (wrap64 (a0 + 1)) then
                           some ((60, (([] : List Int) ++ (List.drop (Int.toNat 0) (List.take (Int.toNat (wrap64 (((List.length a1 : Nat) : Int) - v5.1))) a1)))), (v7, (0, (0, (0, 0)))))
                          else
                           some (((wrap64 (a0 + 1)), (([] : List Int) ++ (List.drop (Int.toNat 0) (List.take (Int.toNat (wrap64 (((List.length a1 : Nat) : Int) - v5.1))) a1)))), (v7, (0, (0, (0, 0)))))
                       else
                        none
                      else
                       none
                     else
                      if (List.getD a2 (Int.toNat a0) (0, 0)).1 = 11 then
                       if 0 ≤ (wrap64 (((List.length a1 : Nat) : Int) - 1)) then
                        if (wrap64 (((List.length a1 : Nat) : Int) - 1)) < ((List.length a1 : Nat) : Int) then
                         if 0 ≤ (wrap64 (((List.length a1 : Nat) : Int) - 1)) then
                          if (wrap64 (((List.length a1 : Nat) : Int) - 1)) < ((List.length a1 : Nat) : Int) then
                           if (((List.length (([] : List Int) ++ (List.drop (Int.toNat 0) (List.take (Int.toNat (wrap64 (((List.length a1 : Nat) : Int) - v5.1))) a1))) + List.length [(List.getD a1 (Int.toNat (wrap64 (((List.length a1 : Nat) : Int) - 1))) 0), (List.getD a1 (Int.toNat (wrap64 (((List.length a1 : Nat) : Int) - 1))) 0)] : Nat) : Int) * ((8 : Nat) : Int)) ≤ 140737488355328 then
                            if 8 < (wrap64 ((wrap64 (((List.length a1 : Nat) : Int) - v5.1)) + v5.2)) then
                             (spec_l04Copy k a3).bind fun v73 =>
                             some (v0, (v73, (0, (0, (0, 4)))))
                            else
                             if 60 < (wrap64 (a0 + 1)) then
                              some ((60, ((([] : List Int) ++ (List.drop (Int.toNat 0) (List.take (Int.toNat (wrap64 (((List.length a1 : Nat) : Int) - v5.1))) a1))) ++ [(List.getD a1 (Int.toNat (wrap64 (((List.length a1 : Nat) : Int) - 1))) 0), (List.getD a1 (Int.toNat (wrap64 (((List.length a1 : Nat) : Int) - 1))) 0)])), (v7, (0, (0, (0, 0)))))
                             else
                              some (((wrap64 (a0 + 1)), ((([] : List Int) ++ (List.drop (Int.toNat 0) (List.take (Int.toNat (wrap64 (((List.length a1 : Nat) : Int) - v5.1))) a1))) ++ [(List.getD a1 (Int.toNat (wrap64 (((List.length a1 : Nat) : Int) - 1))) 0), (List.getD a1 (Int.toNat (wrap64 (((List.length a1 : Nat) : Int) - 1))) 0)])), (v7, (0, (0, (0, 0)))))
                           else
                            none
                          else
                           none
                         else
                          none
                        else
                         none
                       else
                        none
                      else
                       if (List.getD a2 (Int.toNat a0) (0, 0)).1 = 13 then
                        if (List.getD a2 (Int.toNat a0) (0, 0)).1 = 13 then
                         if 0 ≤ (wrap64 (((List.length a1 : Nat) : Int) - 1)) then
                          if (wrap64 (((List.length a1 : Nat) : Int) - 1)) < ((List.length a1 : Nat) : Int) then
                           if 8 < (wrap64 ((wrap64 (((List.length a1 : Nat) : Int) - v5.1)) + v5.2)) then
                            (spec_l04Copy k a3).bind fun v74 =>
                            some (v0, (v74, (0, (0, (0, 4)))))
                           else
                            if 60 < (wrap64 (a0 + 1)) then
                             some ((60, (([] : List Int) ++ (List.drop (Int.toNat 0) (List.take (Int.toNat (wrap64 (((List.length a1 : Nat) : Int) - v5.1))) a1)))), (v7, ((List.getD a2 (Int.toNat a0) (0, 0)).1, ((List.getD a2 (Int.toNat a0) (0, 0)).2, ((List.getD a1 (Int.toNat (wrap64 (((List.length a1 : Nat) : Int) - 1))) 0), 0)))))
                            else
                             some (((wrap64 (a0 + 1)), (([] : List Int) ++ (List.drop (Int.toNat 0) (List.take (Int.toNat (wrap64 (((List.length a1 : Nat) : Int) - v5.1))) a1)))), (v7, ((List.getD a2 (Int.toNat a0) (0, 0)).1, ((List.getD a2 (Int.toNat a0) (0, 0)).2, ((List.getD a1 (Int.toNat (wrap64 (((List.length a1 : Nat) : Int) - 1))) 0), 0)))))
                          else
                           none
                         else
                          none
                        else
                         if (List.getD a2 (Int.toNat a0) (0, 0)).1 = 14 then
                          if (List.getD a2 (Int.toNat a0) (0, 0)).1 = 14 then
                           if 8 < (wrap64 ((wrap64 (((List.length a1 : Nat) : Int) - v5.1)) + v5.2)) then
                            (spec_l04Copy k a3).bind fun v75 =>
                            some (v0, (v75, (0, (0, (0, 4)))))
                           else
                            if 60 < (wrap64 (a0 + 1)) then
                             some ((60, (([] : List Int) ++ (List.drop (Int.toNat 0) (List.take (Int.toNat (wrap64 (((List.length a1 : Nat) : Int) - v5.1))) a1)))), (v7, ((List.getD a2 (Int.toNat a0) (0, 0)).1, ((List.getD a2 (Int.toNat a0) (0, 0)).2, (0, 0)))))
                            else
                             some (((wrap64 (a0 + 1)), (([] : List Int) ++ (List.drop (Int.toNat 0) (List.take (Int.toNat (wrap64 (((List.length a1 : Nat) : Int) - v5.1))) a1)))), (v7, ((List.getD a2 (Int.toNat a0) (0, 0)).1, ((List.getD a2 (Int.toNat a0) (0, 0)).2, (0, 0)))))
                          else
                           if (List.getD a2 (Int.toNat a0) (0, 0)).1 = 17 then
                            (spec_l04Mod k a6).bind fun v76 =>
                            if (((List.length (([] : List Int) ++ (List.drop (Int.toNat 0) (List.take (Int.toNat (wrap64 (((List.length a1 : Nat) : Int) - v5.1))) a1))) + List.length [v76] : Nat) : Int) * ((8 : Nat) : Int)) ≤ 140737488355328 then
                             if 8 < (wrap64 ((wrap64 (((List.length a1 : Nat) : Int) - v5.1)) + v5.2)) then
                              (spec_l04Copy k a3).bind fun v77 =>
                              some (v0, (v77, (0, (0, (0, 4)))))
                             else
                              if 60 < (wrap64 (a0 + 1)) then
                               some ((60, ((([] : List Int) ++ (List.drop (Int.toNat 0) (List.take (Int.toNat (wrap64 (((List.length a1 : Nat) : Int) - v5.1))) a1))) ++ [v76])), (v7, (0, (0, (0, 0)))))
                              else
                               some (((wrap64 (a0 + 1)), ((([] : List Int) ++ (List.drop (Int.toNat 0) (List.take (Int.toNat (wrap64 (((List.length a1 : Nat) : Int) - v5.1))) a1))) ++ [v76])), (v7, (0, (0, (0, 0)))))
                            else
                             none
                           else
                            if 8 < (wrap64 ((wrap64 (((List.length a1 : Nat) : Int) - v5.1)) + v5.2)) then
                             (spec_l04Copy k a3).bind fun v78 =>
                             some (v0, (v78, (0, (0, (0, 4)))))
                            else
                             if 60 < (wrap64 (a0 + 1)) then
                              some ((60, (([] : List Int) ++ (List.drop (Int.toNat 0) (List.take (Int.toNat (wrap64 (((List.length a1 : Nat) : Int) - v5.1))) a1)))), (v7, (0, (0, (0, 0)))))
                             else
                              some (((wrap64 (a0 + 1)), (([] : List Int) ++ (List.drop (Int.toNat 0) (List.take (Int.toNat (wrap64 (((List.length a1 : Nat) : Int) - v5.1))) a1)))), (v7, (0, (0, (0, 0)))))
                         else
                          if (List.getD a2 (Int.toNat a0) (0, 0)).1 = 15 then
                           if 8 < (wrap64 ((wrap64 (((List.length a1 : Nat) : Int) - v5.1)) + v5.2)) then
                            (spec_l04Copy k a3).bind fun v79 =>
                            some (v0, (v79, (0, (0, (0, 4)))))
                           else
                            if 60 < (wrap64 (a0 + 1)) then
                             some ((60, (([] : List Int) ++ (List.drop (Int.toNat 0) (List.take (Int.toNat (wrap64 (((List.length a1 : Nat) : Int) - v5.1))) a1)))), (v7, ((List.getD a2 (Int.toNat a0) (0, 0)).1, ((List.getD a2 (Int.toNat a0) (0, 0)).2, (0, 0)))))
                            else
                             some (((wrap64 (a0 + 1)), (([] : List Int) ++ (List.drop (Int.toNat 0) (List.take (Int.toNat (wrap64 (((List.length a1 : Nat) : Int) - v5.1))) a1)))), (v7, ((List.getD a2 (Int.toNat a0) (0, 0)).1, ((List.getD a2 (Int.toNat a0) (0, 0)).2, (0, 0)))))
                          else
                           if (List.getD a2 (Int.toNat a0) (0, 0)).1 = 17 then
                            (spec_l04Mod k a6).bind fun v80 =>
                            if (((List.length (([] : List Int) ++ (List.drop (Int.toNat 0) (List.take (Int.toNat (wrap64 (((List.length a1 : Nat) : Int) - v5.1))) a1))) + List.length [v80] : Nat) : Int) * ((8 : Nat) : Int)) ≤ 140737488355328 then
                             if 8 < (wrap64 ((wrap64 (((List.length a1 : Nat) : Int) - v5.1)) + v5.2)) then
                              (spec_l04Copy k a3).bind fun v81 =>
                              some (v0, (v81, (0, (0, (0, 4)))))
                             else
                              if 60 < (wrap64 (a0 + 1)) then
                               some ((60, ((([] : List Int) ++ (List.drop (Int.toNat 0) (List.take (Int.toNat (wrap64 (((List.length a1 : Nat) : Int) - v5.1))) a1))) ++ [v80])), (v7, (0, (0, (0, 0)))))
                              else
                               some (((wrap64 (a0 + 1)), ((([] : List Int) ++ (List.drop (Int.toNat 0) (List.take (Int.toNat (wrap64 (((List.length a1 : Nat) : Int) - v5.1))) a1))) ++ [v80])), (v7, (0, (0, (0, 0)))))
                            else
                             none
                           else
                            if 8 < (wrap64 ((wrap64 (((List.length a1 : Nat) : Int) - v5.1)) + v5.2)) then
                             (spec_l04Copy k a3).bind fun v82 =>
                             some (v0, (v82, (0, (0, (0, 4)))))
                            else
                             if 60 < (wrap64 (a0 + 1)) then
                              some ((60, (([] : List Int) ++ (List.drop (Int.toNat 0) (List.take (Int.toNat (wrap64 (((List.length a1 : Nat) : Int) - v5.1))) a1)))), (v7, (0, (0, (0, 0)))))
                             else
                              some (((wrap64 (a0 + 1)), (([] : List Int) ++ (List.drop (Int.toNat 0) (List.take (Int.toNat (wrap64 (((List.length a1 : Nat) : Int) - v5.1))) a1)))), (v7, (0, (0, (0, 0)))))
                       else
                        if (List.getD a2 (Int.toNat a0) (0, 0)).1 = 16 then
                         if 0 ≤ (wrap64 (((List.length a1 : Nat) : Int) - 1)) then
                          if (wrap64 (((List.length a1 : Nat) : Int) - 1)) < ((List.length a1 : Nat) : Int) then
                           if 8 < (wrap64 ((wrap64 (((List.length a1 : Nat) : Int) - v5.1)) + v5.2)) then
                            (spec_l04Copy k a3).bind fun v83 =>
                            some (v0, (v83, (0, (0, (0, 4)))))
                           else
                            if 60 < (wrap64 (a0 + 1)) then
                             some ((60, (([] : List Int) ++ (List.drop (Int.toNat 0) (List.take (Int.toNat (wrap64 (((List.length a1 : Nat) : Int) - v5.1))) a1)))), (v7, ((List.getD a2 (Int.toNat a0) (0, 0)).1, ((List.getD a2 (Int.toNat a0) (0, 0)).2, ((List.getD a1 (Int.toNat (wrap64 (((List.length a1 : Nat) : Int) - 1))) 0), 0)))))
                            else
                             some (((wrap64 (a0 + 1)), (([] : List Int) ++ (List.drop (Int.toNat 0) (List.take (Int.toNat (wrap64 (((List.length a1 : Nat) : Int) - v5.1))) a1)))), (v7, ((List.getD a2 (Int.toNat a0) (0, 0)).1, ((List.getD a2 (Int.toNat a0) (0, 0)).2, ((List.getD a1 (Int.toNat (wrap64 (((List.length a1 : Nat) : Int) - 1))) 0), 0)))))
                          else
                           none
                         else
                          none
                        else
                         if (List.getD a2 (Int.toNat a0) (0, 0)).1 = 14 then
                          if (List.getD a2 (Int.toNat a0) (0, 0)).1 = 14 then
                           if 8 < (wrap64 ((wrap64 (((List.length a1 : Nat) : Int) - v5.1)) + v5.2)) then
                            (spec_l04Copy k a3).bind fun v84 =>
                            some (v0, (v84, (0, (0, (0, 4)))))
                           else
                            if 60 < (wrap64 (a0 + 1)) then
                             some ((60, (([] : List Int) ++ (List.drop (Int.toNat 0) (List.take (Int.toNat (wrap64 (((List.length a1 : Nat) : Int) - v5.1))) a1)))), (v7, ((List.getD a2 (Int.toNat a0) (0, 0)).1, ((List.getD a2 (Int.toNat a0) (0, 0)).2, (0, 0)))))
                            else
                             some (((wrap64 (a0 + 1)), (([] : List Int) ++ (List.drop (Int.toNat 0) (List.take (Int.toNat (wrap64 (((List.length a1 : Nat) : Int) - v5.1))) a1)))), (v7, ((List.getD a2 (Int.toNat a0) (0, 0)).1, ((List.getD a2 (Int.toNat a0) (0, 0)).2, (0, 0)))))
                          else
                           if (List.getD a2 (Int.toNat a0) (0, 0)).1 = 17 then
                            (spec_l04Mod k a6).bind fun v85 =>
                            if (((List.length (([] : List Int) ++ (List.drop (Int.toNat 0) (List.take (Int.toNat (wrap64 (((List.length a1 : Nat) : Int) - v5.1))) a1))) + List.length [v85] : Nat) : Int) * ((8 : Nat) : Int)) ≤ 140737488355328 then
                             if 8 < (wrap64 ((wrap64 (((List.length a1 : Nat) : Int) - v5.1)) + v5.2)) then
                              (spec_l04Copy k a3).bind fun v86 =>
                              some (v0, (v86, (0, (0, (0, 4)))))
                             else
                              if 60 < (wrap64 (a0 + 1)) then
                               some ((60, ((([] : List Int) ++ (List.drop (Int.toNat 0) (List.take (Int.toNat (wrap64 (((List.length a1 : Nat) : Int) - v5.1))) a1))) ++ [v85])), (v7, (0, (0, (0, 0)))))
                              else
                               some (((wrap64 (a0 + 1)), ((([] : List Int) ++ (List.drop (Int.toNat 0) (List.take (Int.toNat (wrap64 (((List.length a1 : Nat) : Int) - v5.1))) a1))) ++ [v85])), (v7, (0, (0, (0, 0)))))
                            else
                             none
                           else
                            if 8 < (wrap64 ((wrap64 (((List.length a1 : Nat) : Int) - v5.1)) + v5.2)) then
                             (spec_l04Copy k a3).bind fun v87 =>
                             some (v0, (v87, (0, (0, (0, 4)))))
                            else
                             if 60 < (wrap64 (a0 + 1)) then
                              some ((60, (([] : List Int) ++ (List.drop (Int.toNat 0) (List.take (Int.toNat (wrap64 (((List.length a1 : Nat) : Int) - v5.1))) a1)))), (v7, (0, (0, (0, 0)))))
                             else
                              some (((wrap64 (a0 + 1)), (([] : List Int) ++ (List.drop (Int.toNat 0) (List.take (Int.toNat (wrap64 (((List.length a1 : Nat) : Int) - v5.1))) a1)))), (v7, (0, (0, (0, 0)))))
                         else
                          if (List.getD a2 (Int.toNat a0) (0, 0)).1 = 15 then
                           if 8 < (wrap64 ((wrap64 (((List.length a1 : Nat) : Int) - v5.1)) + v5.2)) then
                            (spec_l04Copy k a3).bind fun v88 =>
                            some (v0, (v88, (0, (0, (0, 4)))))
                           else
                            if 60 < (wrap64 (a0 + 1)) then
                             some ((60, (([] : List Int) ++ (List.drop (Int.toNat 0) (List.take (Int.toNat (wrap64 (((List.length a1 : Nat) : Int) - v5.1))) a1)))), (v7, ((List.getD a2 (Int.toNat a0) (0, 0)).1, ((List.getD a2 (Int.toNat a0) (0, 0)).2, (0, 0)))))
                            else
                             some (((wrap64 (a0 + 1)), (([] : List Int) ++ (List.drop (Int.toNat 0) (List.take (Int.toNat (wrap64 (((List.length a1 : Nat) : Int) - v5.1))) a1)))), (v7, ((List.getD a2 (Int.toNat a0) (0, 0)).1, ((List.getD a2 (Int.toNat a0) (0, 0)).2, (0, 0)))))
                          else
                           if (List.getD a2 (Int.toNat a0) (0, 0)).1 = 17 then
                            (spec_l04Mod k a6).bind fun v89 =>
                            if (((List.length (([] : List Int) ++ (List.drop (Int.toNat 0) (List.take (Int.toNat (wrap64 (((List.length a1 : Nat) : Int) - v5.1))) a1))) + List.length [v89] : Nat) : Int) * ((8 : Nat) : Int)) ≤ 140737488355328 then
                             if 8 < (wrap64 ((wrap64 (((List.length a1 : Nat) : Int) - v5.1)) + v5.2)) then
                              (spec_l04Copy k a3).bind fun v90 =>
                              some (v0, (v90, (0, (0, (0, 4)))))
                             else
                              if 60 < (wrap64 (a0 + 1)) then
                               some ((60, ((([] : List Int) ++ (List.drop (Int.toNat 0) (List.take (Int.toNat (wrap64 (((List.length a1 : Nat) : Int) - v5.1))) a1))) ++ [v89])), (v7, (0, (0, (0, 0)))))
                              else
                               some (((wrap64 (a0 + 1)), ((([] : List Int) ++ (List.drop (Int.toNat 0) (List.take (Int.toNat (wrap64 (((List.length a1 : Nat) : Int) - v5.1))) a1))) ++ [v89])), (v7, (0, (0, (0, 0)))))
                            else
                             none
                           else
                            if 8 < (wrap64 ((wrap64 (((List.length a1 : Nat) : Int) - v5.1)) + v5.2)) then
                             (spec_l04Copy k a3).bind fun v91 =>
                             some (v0, (v91, (0, (0, (0, 4)))))
                            else
                             if 60 < (wrap64 (a0 + 1)) then
                              some ((60, (([] : List Int) ++ (List.drop (Int.toNat 0) (List.take (Int.toNat (wrap64 (((List.length a1 : Nat) : Int) - v5.1))) a1)))), (v7, (0, (0, (0, 0)))))
                             else
                              some (((wrap64 (a0 + 1)), (([] : List Int) ++ (List.drop (Int.toNat 0) (List.take (Int.toNat (wrap64 (((List.length a1 : Nat) : Int) - v5.1))) a1)))), (v7, (0, (0, (0, 0)))))
                  else
                   if (List.getD a2 (Int.toNat a0) (0, 0)).1 = 7 then
                    if (List.getD a2 (Int.toNat a0) (0, 0)).1 = 7 then
                     if 0 ≤ (wrap64 (((List.length a1 : Nat) : Int) - 2)) then
                      if (wrap64 (((List.length a1 : Nat) : Int) - 2)) < ((List.length a1 : Nat) : Int) then
                       if 0 ≤ (wrap64 (((List.length a1 : Nat) : Int) - 1)) then
                        if (wrap64 (((List.length a1 : Nat) : Int) - 1)) < ((List.length a1 : Nat) : Int) then (spec_l06Sum k ((List.getD a2 (Int.toNat a0) (0, 0)).1, ((List.getD a1 (Int.toNat (wrap64 (((List.length a1 : Nat) : Int) - 2))) 0), (List.getD a1 (Int.toNat (wrap64 (((List.length a1 : Nat) : Int) - 1))) 0)))).bind fun v92 =>
                         if v92.2 = true then
                          if (((List.length (([] : List Int) ++ (List.drop (Int.toNat 0) (List.take (Int.toNat (wrap64 (((List.length a1 : Nat) : Int) - v5.1))) a1))) + List.length [v92.1] : Nat) : Int) * ((8 : Nat) : Int)) ≤ 140737488355328 then
                           if 8 < (wrap64 ((wrap64 (((List.length a1 : Nat) : Int) - v5.1)) + v5.2)) then
                            (spec_l04Copy k a3).bind fun v93 =>
                            some (v0, (v93, (0, (0, (0, 4)))))
                           else
                            if 60 < (wrap64 (a0 + 1)) then
                             some ((60, ((([] : List Int) ++ (List.drop (Int.toNat 0) (List.take (Int.toNat (wrap64 (((List.length a1 : Nat) : Int) - v5.1))) a1))) ++ [v92.1])), (v7, (0, (0, (0, 0)))))
                            else
                             some (((wrap64 (a0 + 1)), ((([] : List Int) ++ (List.drop (Int.toNat 0) (List.take (Int.toNat (wrap64 (((List.length a1 : Nat) : Int) - v5.1))) a1))) ++ [v92.1])), (v7, (0, (0, (0, 0)))))
                          else
                           none
                         else
                          (spec_l04Copy k a3).bind fun v94 =>
                          some (v0, (v94, (0, (0, (0, 3))))) else none
                       else
                        none
                      else
                       none
                     else
                      none
                    else
                     if (List.getD a2 (Int.toNat a0) (0, 0)).1 = 9 then
                      if 8 < (wrap64 ((wrap64 (((List.length a1 : Nat) : Int) - v5.1)) + v5.2)) then
                       (spec_l04Copy k a3).bind fun v95 =>
                       some (v0, (v95, (0, (0, (0, 4)))))
                      else
                       if 60 < (List.getD a2 (Int.toNat a0) (0, 0)).2 then
                        some ((60, (([] : List Int) ++ (List.drop (Int.toNat 0) (List.take (Int.toNat (wrap64 (((List.length a1 : Nat) : Int) - v5.1))) a1)))), (v7, (0, (0, (0, 0)))))
                       else
                        some (((List.getD a2 (Int.toNat a0) (0, 0)).2, (([] : List Int) ++ (List.drop (Int.toNat 0) (List.take (Int.toNat (wrap64 (((List.length a1 : Nat) : Int) - v5.1))) a1)))), (v7, (0, (0, (0, 0)))))
                     else
                      if (List.getD a2 (Int.toNat a0) (0, 0)).1 = 10 then
                       if 0 ≤ (wrap64 (((List.length a1 : Nat) : Int) - 1)) then
                        if (wrap64 (((List.length a1 : Nat) : Int) - 1)) < ((List.length a1 : Nat) : Int) then
                         if (List.getD a1 (Int.toNat (wrap64 (((List.length a1 : Nat) : Int) - 1))) 0) = 0 then
                          if 8 < (wrap64 ((wrap64 (((List.length a1 : Nat) : Int) - v5.1)) + v5.2)) then
                           (spec_l04Copy k a3).bind fun v96 =>
                           some (v0, (v96, (0, (0, (0, 4)))))
                          else
                           if 60 < (List.getD a2 (Int.toNat a0) (0, 0)).2 then
                            some ((60, (([] : List Int) ++ (List.drop (Int.toNat 0) (List.take (Int.toNat (wrap64 (((List.length a1 : Nat) : Int) - v5.1))) a1)))), (v7, (0, (0, (0, 0)))))
                           else
                            some (((List.getD a2 (Int.toNat a0) (0, 0)).2, (([] : List Int) ++ (List.drop (Int.toNat 0) (List.take (Int.toNat (wrap64 (((List.length a1 : Nat) : Int) - v5.1))) a1)))), (v7, (0, (0, (0, 0)))))
                         else
                          if 8 < (wrap64 ((wrap64 (((List.length a1 : Nat) : Int) - v5.1)) + v5.2)) then
                           (spec_l04Copy k a3).bind fun v97 =>
                           some (v0, (v97, (0, (0, (0, 4)))))
                          else
                           if 60 < (wrap64 (a0 + 1)) then
                            some ((60, (([] : List Int) ++ (List.drop (Int.toNat 0) (List.take (Int.toNat (wrap64 (((List.length a1 : Nat) : Int) - v5.1))) a1)))), (v7, (0, (0, (0, 0)))))
                           else
                            some (((wrap64 (a0 + 1)), (([] : List Int) ++ (List.drop (Int.toNat 0) (List.take (Int.toNat (wrap64 (((List.length a1 : Nat) : Int) - v5.1))) a1)))), (v7, (0, (0, (0, 0)))))
                        else
                         none
                       else
                        none
                      else
                       if (List.getD a2 (Int.toNat a0) (0, 0)).1 = 11 then
                        if 0 ≤ (wrap64 (((List.length a1 : Nat) : Int) - 1)) then
                         if (wrap64 (((List.length a1 : Nat) : Int) - 1)) < ((List.length a1 : Nat) : Int) then
                          if 0 ≤ (wrap64 (((List.length a1 : Nat) : Int) - 1)) then
                           if (wrap64 (((List.length a1 : Nat) : Int) - 1)) < ((List.length a1 : Nat) : Int) then
                            if (((List.length (([] : List Int) ++ (List.drop (Int.toNat 0) (List.take (Int.toNat (wrap64 (((List.length a1 : Nat) : Int) - v5.1))) a1))) + List.length [(List.getD a1 (Int.toNat (wrap64 (((List.length a1 : Nat) : Int) - 1))) 0), (List.getD a1 (Int.toNat (wrap64 (((List.length a1 : Nat) : Int) - 1))) 0)] : Nat) : Int) * ((8 : Nat) : Int)) ≤ 140737488355328 then
                             if 8 < (wrap64 ((wrap64 (((List.length a1 : Nat) : Int) - v5.1)) + v5.2)) then
                              (spec_l04Copy k a3).bind fun v98 =>
                              some (v0, (v98, (0, (0, (0, 4)))))
                             else
                              if 60 < (wrap64 (a0 + 1)) then
                               some ((60, ((([] : List Int) ++ (List.drop (Int.toNat 0) (List.take (Int.toNat (wrap64 (((List.length a1 : Nat) : Int) - v5.1))) a1))) ++ [(List.getD a1 (Int.toNat (wrap64 (((List.length a1 : Nat) : Int) - 1))) 0), (List.getD a1 (Int.toNat (wrap64 (((List.length a1 : Nat) : Int) - 1))) 0)])), (v7, (0, (0, (0, 0)))))
                              else
                               some (((wrap64 (a0 + 1)), ((([] : List Int) ++ (List.drop (Int.toNat 0) (List.take (Int.toNat (wrap64 (((List.length a1 : Nat) : Int) - v5.1))) a1))) ++ [(List.getD a1 (Int.toNat (wrap64 (((List.length a1 : Nat) : Int) - 1))) 0), (List.getD a1 (Int.toNat (wrap64 (((List.length a1 : Nat) : Int) - 1))) 0)])), (v7, (0, (0, (0, 0)))))
                            else
                             none
                           else
                            none
                          else
                           none
                         else
                          none
                        else
                         none
                       else
                        if (List.getD a2 (Int.toNat a0) (0, 0)).1 = 13 then
                         if (List.getD a2 (Int.toNat a0) (0, 0)).1 = 13 then
                          if 0 ≤ (wrap64 (((List.length a1 : Nat) : Int) - 1)) then
                           if (wrap64 (((List.length a1 : Nat) : Int) - 1)) < ((List.length a1 : Nat) : Int) then
                            if 8 < (wrap64 ((wrap64 (((List.length a1 : Nat) : Int) - v5.1)) + v5.2)) then
                             (spec_l04Copy k a3).bind fun v99 =>
                             some (v0, (v99, (0, (0, (0, 4)))))
                            else
                             if 60 < (wrap64 (a0 + 1)) then
                              some ((60, (([] : List Int) ++ (List.drop (Int.toNat 0) (List.take (Int.toNat (wrap64 (((List.length a1 : Nat) : Int) - v5.1))) a1)))), (v7, ((List.getD a2 (Int.toNat a0) (0, 0)).1, ((List.getD a2 (Int.toNat a0) (0, 0)).2, ((List.getD a1 (Int.toNat (wrap64 (((List.length a1 : Nat) : Int) - 1))) 0), 0)))))
                             else
                              some (((wrap64 (a0 + 1)), (([] : List Int) ++ (List.drop (Int.toNat 0) (List.take (Int.toNat (wrap64 (((List.length a1 : Nat) : Int) - v5.1))) a1)))), (v7, ((List.getD a2 (Int.toNat a0) (0, 0)).1, ((List.getD a2 (Int.toNat a0) (0, 0)).2, ((List.getD a1 (Int.toNat (wrap64 (((List.length a1 : Nat) : Int) - 1))) 0), 0)))))
                           else
                            none
                          else
                           none
                         else
                          if (List.getD a2 (Int.toNat a0) (0, 0)).1 = 14 then
                           if (List.getD a2 (Int.toNat a0) (0, 0)).1 = 14 then
                            if 8 < (wrap64 ((wrap64 (((List.length a1 : Nat) : Int) - v5.1)) + v5.2)) then
                             (spec_l04Copy k a3).bind fun v100 =>
                             some (v0, (v100, (0, (0, (0, 4)))))
                            else
                             if 60 < (wrap64 (a0 + 1)) then
                              some ((60, (([] : List Int) ++ (List.drop (Int.toNat 0) (List.take (Int.toNat (wrap64 (((List.length a1 : Nat) : Int) - v5.1))) a1)))), (v7, ((List.getD a2 (Int.toNat a0) (0, 0)).1, ((List.getD a2 (Int.toNat a0) (0, 0)).2, (0, 0)))))
                             else
                              some (((wrap64 (a0 + 1)), (([] : List Int) ++ (List.drop (Int.toNat 0) (List.take (Int.toNat (wrap64 (((List.length a1 : Nat) : Int) - v5.1))) a1)))), (v7, ((List.getD a2 (Int.toNat a0) (0, 0)).1, ((List.getD a2 (Int.toNat a0) (0, 0)).2, (0, 0)))))
                           else
                            if (List.getD a2 (Int.toNat a0) (0, 0)).1 = 17 then
                             (spec_l04Mod k a6).bind fun v101 =>
                             if (((List.length (([] : List Int) ++ (List.drop (Int.toNat 0) (List.take (Int.toNat (wrap64 (((List.length a1 : Nat) : Int) - v5.1))) a1))) + List.length [v101] : Nat) : Int) * ((8 : Nat) : Int)) ≤ 140737488355328 then
                              if 8 < (wrap64 ((wrap64 (((List.length a1 : Nat) : Int) - v5.1)) + v5.2)) then
                               (spec_l04Copy k a3).bind fun v102 =>
                               some (v0, (v102, (0, (0, (0, 4)))))
                              else
                               if 60 < (wrap64 (a0 + 1)) then
                                some ((60, ((([] : List Int) ++ (List.drop (Int.toNat 0) (List.take (Int.toNat (wrap64 (((List.length a1 : Nat) : Int) - v5.1))) a1))) ++ [v101])), (v7, (0, (0, (0, 0)))))
                               else
                                some (((wrap64 (a0 + 1)), ((([] : List Int) ++ (List.drop (Int.toNat 0) (List.take (Int.toNat (wrap64 (((List.length a1 : Nat) : Int) - v5.1))) a1))) ++ [v101])), (v7, (0, (0, (0, 0)))))
                             else
                              none
                            else
                             if 8 < (wrap64 ((wrap64 (((List.length a1 : Nat) : Int) - v5.1)) + v5.2)) then
                              (spec_l04Copy k a3).bind fun v103 =>
                              some (v0, (v103, (0, (0, (0, 4)))))
                             else
                              if 60 < (wrap64 (a0 + 1)) then
                               some ((60, (([] : List Int) ++ (List.drop (Int.toNat 0) (List.take (Int.toNat (wrap64 (((List.length a1 : Nat) : Int) - v5.1))) a1)))), (v7, (0, (0, (0, 0)))))
                              else
                               some (((wrap64 (a0 + 1)), (([] : List Int) ++ (List.drop (Int.toNat 0) (List.take (Int.toNat (wrap64 (((List.length a1 : Nat) : Int) - v5.1))) a1)))), (v7, (0, (0, (0, 0)))))
                          else
                           if (List.getD a2 (Int.toNat a0) (0, 0)).1 = 15 then
                            if 8 < (wrap64 ((wrap64 (((List.length a1 : Nat) : Int) - v5.1)) + v5.2)) then
                             (spec_l04Copy k a3).bind fun v104 =>
                             some (v0, (v104, (0, (0, (0, 4)))))
                            else
                             if 60 < (wrap64 (a0 + 1)) then
                              some ((60, (([] : List Int) ++ (List.drop (Int.toNat 0) (List.take (Int.toNat (wrap64 (((List.length a1 : Nat) : Int) - v5.1))) a1)))), (v7, ((List.getD a2 (Int.toNat a0) (0, 0)).1, ((List.getD a2 (Int.toNat a0) (0, 0)).2, (0, 0)))))
                             else
                              some (((wrap64 (a0 + 1)), (([] : List Int) ++ (List.drop (Int.toNat 0) (List.take (Int.toNat (wrap64 (((List.length a1 : Nat) : Int) - v5.1))) a1)))), (v7, ((List.getD a2 (Int.toNat a0) (0, 0)).1, ((List.getD a2 (Int.toNat a0) (0, 0)).2, (0, 0)))))
                           else
                            if (List.getD a2 (Int.toNat a0) (0, 0)).1 = 17 then
                             (spec_l04Mod k a6).bind fun v105 =>
                             if (((List.length (([] : List Int) ++ (List.drop (Int.toNat 0) (List.take (Int.toNat (wrap64 (((List.length a1 : Nat) : Int) - v5.1))) a1))) + List.length [v105] : Nat) : Int) * ((8 : Nat) : Int)) ≤ 140737488355328 then
                              if 8 < (wrap64 ((wrap64 (((List.length a1 : Nat) : Int) - v5.1)) + v5.2)) then
                               (spec_l04Copy k a3).bind fun v106 =>
                               some (v0, (v106, (0, (0, (0, 4)))))
                              else
                               if 60 < (wrap64 (a0 + 1)) then
                                some ((60, ((([] : List Int) ++ (List.drop (Int.toNat 0) (List.take (Int.toNat (wrap64 (((List.length a1 : Nat) : Int) - v5.1))) a1))) ++ [v105])), (v7, (0, (0, (0, 0)))))
                               else
                                some (((wrap64 (a0 + 1)), ((([] : List Int) ++ (List.drop (Int.toNat 0) (List.take (Int.toNat (wrap64 (((List.length a1 : Nat) : Int) - v5.1))) a1))) ++ [v105])), (v7, (0, (0, (0, 0)))))
                             else
                              none
                            else
                             if 8 < (wrap64 ((wrap64 (((List.length a1 : Nat) : Int) - v5.1)) + v5.2)) then
                              (spec_l04Copy k a3).bind fun v107 =>
                              some (v0, (v107, (0, (0, (0, 4)))))
                             else
                              if 60 < (wrap64 (a0 + 1)) then
                               some ((60, (([] : List Int) ++ (List.drop (Int.toNat 0) (List.take (Int.toNat (wrap64 (((List.length a1 : Nat) : Int) - v5.1))) a1)))), (v7, (0, (0, (0, 0)))))
                              else
                               some (((wrap64 (a0 + 1)), (([] : List Int) ++ (List.drop (Int.toNat 0) (List.take (Int.toNat (wrap64 (((List.length a1 : Nat) : Int) - v5.1))) a1)))), (v7, (0, (0, (0, 0)))))
                        else
                         if (List.getD a2 (Int.toNat a0) (0, 0)).1 = 16 then
                          if 0 ≤ (wrap64 (((List.length a1 : Nat) : Int) - 1)) then
                           if (wrap64 (((List.length a1 : Nat) : Int) - 1)) < ((List.length a1 : Nat) : Int) then
                            if 8 < (wrap64 ((wrap64 (((List.length a1 : Nat) : Int) - v5.1)) + v5.2)) then
                             (spec_l04Copy k a3).bind fun v108 =>
                             some (v0, (v108, (0, (0, (0, 4)))))
                            else
                             if 60 < (wrap64 (a0 + 1)) then
                              some ((60, (([] : List Int) ++ (List.drop (Int.toNat 0) (List.take (Int.toNat (wrap64 (((List.length a1 : Nat) : Int) - v5.1))) a1)))), (v7, ((List.getD a2 (Int.toNat a0) (0, 0)).1, ((List.getD a2 (Int.toNat a0) (0, 0)).2, ((List.getD a1 (Int.toNat (wrap64 (((List.length a1 : Nat) : Int) - 1))) 0), 0)))))
                             else
                              some (((wrap64 (a0 + 1)), (([] : List Int) ++ (List.drop (Int.toNat 0) (List.take (Int.toNat (wrap64 (((List.length a1 : Nat) : Int) - v5.1))) a1)))), (v7, ((List.getD a2 (Int.toNat a0) (0, 0)).1, ((List.getD a2 (Int.toNat a0) (0, 0)).2, ((List.getD a1 (Int.toNat (wrap64 (((List.length a1 : Nat) : Int) - 1))) 0), 0)))))
                           else
                            none
                          else
                           none
                         else
                          if (List.getD a2 (Int.toNat a0) (0, 0)).1 = 14 then
                           if (List.getD a2 (Int.toNat a0) (0, 0)).1 = 14 then
                            if 8 < (wrap64 ((wrap64 (((List.length a1 : Nat) : Int) - v5.1)) + v5.2)) then
                             (spec_l04Copy k a3).bind fun v109 =>
                             some (v0, (v109, (0, (0, (0, 4)))))
                            else
                             if 60 < (wrap64 (a0 + 1)) then
                              some ((60, (([] : List Int) ++ (List.drop (Int.toNat 0) (List.take (Int.toNat (wrap64 (((List.length a1 : Nat) : Int) - v5.1))) a1)))), (v7, ((List.getD a2 (Int.toNat a0) (0, 0)).1, ((List.getD a2 (Int.toNat a0) (0, 0)).2, (0, 0)))))
                             else
                              some (((wrap64 (a0 + 1)), (([] : List Int) ++ (List.drop (Int.toNat 0) (List.take (Int.toNat (wrap64 (((List.length a1 : Nat) : Int) - v5.1))) a1)))), (v7, ((List.getD a2 (Int.toNat a0) (0, 0)).1, ((List.getD a2 (Int.toNat a0) (0, 0)).2, (0, 0)))))
                           else
                            if (List.getD a2 (Int.toNat a0) (0, 0)).1 = 17 then
                             (spec_l04Mod k a6).bind fun v110 =>
                             if (((List.length (([] : List Int) ++ (List.drop (Int.toNat 0) (List.take (Int.toNat (wrap64 (((List.length a1 : Nat) : Int) - v5.1))) a1))) + List.length [v110] : Nat) : Int) * ((8 : Nat) : Int)) ≤ 140737488355328 then
                              if 8 < (wrap64 ((wrap64 (((List.length a1 : Nat) : Int) - v5.1)) + v5.2)) then
                               (spec_l04Copy k a3).bind fun v111 =>
                               some (v0, (v111, (0, (0, (0, 4)))))
                              else
                               if 60 < (wrap64 (a0 + 1)) then
                                some ((60, ((([] : List Int) ++ (List.drop (Int.toNat 0) (List.take (Int.toNat (wrap64 (((List.length a1 : Nat) : Int) - v5.1))) a1))) ++ [v110])), (v7, (0, (0, (0, 0)))))
                               else
                                some (((wrap64 (a0 + 1)), ((([] : List Int) ++ (List.drop (Int.toNat 0) (List.take (Int.toNat (wrap64 (((List.length a1 : Nat) : Int) - v5.1))) a1))) ++ [v110])), (v7, (0, (0, (0, 0)))))
                             else
                              none
                            else
                             if 8 < (wrap64 ((wrap64 (((List.length a1 : Nat) : Int) - v5.1)) + v5.2)) then
                              (spec_l04Copy k a3).bind fun v112 =>
                              some (v0, (v112, (0, (0, (0, 4)))))
                             else
                              if 60 < (wrap64 (a0 + 1)) then
                               some ((60, (([] : List Int) ++ (List.drop (Int.toNat 0) (List.take (Int.toNat (wrap64 (((List.length a1 : Nat) : Int) - v5.1))) a1)))), (v7, (0, (0, (0, 0)))))
                              else
                               some (((wrap64 (a0 + 1)), (([] : List Int) ++ (List.drop (Int.toNat 0) (List.take (Int.toNat (wrap64 (((List.length a1 : Nat) : Int) - v5.1))) a1)))), (v7, (0, (0, (0, 0)))))
                          else
                           if (List.getD a2 (Int.toNat a0) (0, 0)).1 = 15 then
                            if 8 < (wrap64 ((wrap64 (((List.length a1 : Nat) : Int) - v5.1)) + v5.2)) then
                             (spec_l04Copy k a3).bind fun v113 =>
                             some (v0, (v113, (0, (0, (0, 4)))))
                            else
                             if 60 < (wrap64 (a0 + 1)) then
                              some ((60, (([] : List Int) ++ (List.drop (Int.toNat 0) (List.take (Int.toNat (wrap64 (((List.length a1 : Nat) : Int) - v5.1))) a1)))), (v7, ((List.getD a2 (Int.toNat a0) (0, 0)).1, ((List.getD a2 (Int.toNat a0) (0, 0)).2, (0, 0)))))
                             else
                              some (((wrap64 (a0 + 1)), (([] : List Int) ++ (List.drop (Int.toNat 0) (List.take (Int.toNat (wrap64 (((List.length a1 : Nat) : Int) - v5.1))) a1)))), (v7, ((List.getD a2 (Int.toNat a0) (0, 0)).1, ((List.getD a2 (Int.toNat a0) (0, 0)).2, (0, 0)))))
                           else
                            if (List.getD a2 (Int.toNat a0) (0, 0)).1 = 17 then
                             (spec_l04Mod k a6).bind fun v114 =>
                             if (((List.length (([] : List Int) ++ (List.drop (Int.toNat 0) (List.take (Int.toNat (wrap64 (((List.length a1 : Nat) : Int) - v5.1))) a1))) + List.length [v114] : Nat) : Int) * ((8 : Nat) : Int)) ≤ 140737488355328 then
                              if 8 < (wrap64 ((wrap64 (((List.length a1 : Nat) : Int) - v5.1)) + v5.2)) then
                               (spec_l04Copy k a3).bind fun v115 =>
                               some (v0, (v115, (0, (0, (0, 4)))))
                              else
                               if 60 < (wrap64 (a0 + 1)) then
                                some ((60, ((([] : List Int) ++ (List.drop (Int.toNat 0) (List.take (Int.toNat (wrap64 (((List.length a1 : Nat) : Int) - v5.1))) a1))) ++ [v114])), (v7, (0, (0, (0, 0)))))
                               else
                                some (((wrap64 (a0 + 1)), ((([] : List Int) ++ (List.drop (Int.toNat 0) (List.take (Int.toNat (wrap64 (((List.length a1 : Nat) : Int) - v5.1))) a1))) ++ [v114])), (v7, (0, (0, (0, 0)))))
                             else
                              none
                            else
                             if 8 < (wrap64 ((wrap64 (((List.length a1 : Nat) : Int) - v5.1)) + v5.2)) then
                              (spec_l04Copy k a3).bind fun v116 =>
                              some (v0, (v116, (0, (0, (0, 4)))))
                             else
                              if 60 < (wrap64 (a0 + 1)) then
                               some ((60, (([] : List Int) ++ (List.drop (Int.toNat 0) (List.take (Int.toNat (wrap64 (((List.length a1 : Nat) : Int) - v5.1))) a1)))), (v7, (0, (0, (0, 0)))))
                              else
                               some (((wrap64 (a0 + 1)), (([] : List Int) ++ (List.drop (Int.toNat 0) (List.take (Int.toNat (wrap64 (((List.length a1 : Nat) : Int) - v5.1))) a1)))), (v7, (0, (0, (0, 0)))))
                   else
                    if (List.getD a2 (Int.toNat a0) (0, 0)).1 = 8 then
                     if 0 ≤ (wrap64 (((List.length a1 : Nat) : Int) - 2)) then
                      if (wrap64 (((List.length a1 : Nat) : Int) - 2)) < ((List.length a1 : Nat) : Int) then
                       if 0 ≤ (wrap64 (((List.length a1 : Nat) : Int) - 1)) then
                        if (wrap64 (((List.length a1 : Nat) : Int) - 1)) < ((List.length a1 : Nat) : Int) then (spec_l06Sum k ((List.getD a2 (Int.toNat a0) (0, 0)).1, ((List.getD a1 (Int.toNat (wrap64 (((List.length a1 : Nat) : Int) - 2))) 0), (List.getD a1 (Int.toNat (wrap64 (((List.length a1 : Nat) : Int) - 1))) 0)))).bind fun v117 =>
                         if v117.2 = true then
                          if (((List.length (([] : List Int) ++ (List.drop (Int.toNat 0) (List.take (Int.toNat (wrap64 (((List.length a1 : Nat) : Int) - v5.1))) a1))) + List.length [v117.1] : Nat) : Int) * ((8 : Nat) : Int)) ≤ 140737488355328 then
                           if 8 < (wrap64 ((wrap64 (((List.length a1 : Nat) : Int) - v5.1)) + v5.2)) then
                            (spec_l04Copy k a3).bind fun v118 =>
                            some (v0, (v118, (0, (0, (0, 4)))))
                           else
                            if 60 < (wrap64 (a0 + 1)) then
                             some ((60, ((([] : List Int) ++ (List.drop (Int.toNat 0) (List.take (Int.toNat (wrap64 (((List.length a1 : Nat) : Int) - v5.1))) a1))) ++ [v117.1])), (v7, (0, (0, (0, 0)))))
                            else
                             some (((wrap64 (a0 + 1)), ((([] : List Int) ++ (List.drop (Int.toNat 0) (List.take (Int.toNat (wrap64 (((List.length a1 : Nat) : Int) - v5.1))) a1))) ++ [v117.1])), (v7, (0, (0, (0, 0)))))
                          else
                           none
                         else
                          (spec_l04Copy k a3).bind fun v119 =>
                          some (v0, (v119, (0, (0, (0, 3))))) else none
                       else
                        none
                      else
                       none
                     else
                      none
                    else
                     if (List.getD a2 (Int.toNat a0) (0, 0)).1 = 9 then
                      if 8 < (wrap64 ((wrap64 (((List.length a1 : Nat) : Int) - v5.1)) + v5.2)) then
                       (spec_l04Copy k a3).bind fun v120 =>
                       some (v0, (v120, (0, (0, (0, 4)))))
                      else
                       if 60 < (List.getD a2 (Int.toNat a0) (0, 0)).2 then
                        some ((60, (([] : List Int) ++ (List.drop (Int.toNat 0) (List.take (Int.toNat (wrap64 (((List.length a1 : Nat) : Int) - v5.1))) a1)))), (v7, (0, (0, (0, 0)))))
                       else
                        some (((List.getD a2 (Int.toNat a0) (0, 0)).2, (([] : List Int) ++ (List.drop (Int.toNat 0) (List.take (Int.toNat (wrap64 (((List.length a1 : Nat) : Int) - v5.1))) a1)))), (v7, (0, (0, (0, 0)))))
                     else
                      if (List.getD a2 (Int.toNat a0) (0, 0)).1 = 10 then
                       if 0 ≤ (wrap64 (((List.length a1 : Nat) : Int) - 1)) then
                        if (wrap64 (((List.length a1 : Nat) : Int) - 1)) < ((List.length a1 : Nat) : Int) then
                         if (List.getD a1 (Int.toNat (wrap64 (((List.length a1 : Nat) : Int) - 1))) 0) = 0 then
                          if 8 < (wrap64 ((wrap64 (((List.length a1 : Nat) : Int) - v5.1)) + v5.2)) then
                           (spec_l04Copy k a3).bind fun v121 =>
                           some (v0, (v121, (0, (0, (0, 4)))))
                          else
                           if 60 < (List.getD a2 (Int.toNat a0) (0, 0)).2 then
                            some ((60, (([] : List Int) ++ (List.drop (Int.toNat 0) (List.take (Int.toNat (wrap64 (((List.length a1 : Nat) : Int) - v5.1))) a1)))), (v7, (0, (0, (0, 0)))))
                           else
                            some (((List.getD a2 (Int.toNat a0) (0, 0)).2, (([] : List Int) ++ (List.drop (Int.toNat 0) (List.take (Int.toNat (wrap64 (((List.length a1 : Nat) : Int) - v5.1))) a1)))), (v7, (0, (0, (0, 0)))))
                         else
                          if 8 < (wrap64 ((wrap64 (((List.length a1 : Nat) : Int) - v5.1)) + v5.2)) then
                           (spec_l04Copy k a3).bind fun v122 =>
                           some (v0, (v122, (0, (0, (0, 4)))))
                          else
                           if 60 < (wrap64 (a0 + 1)) then
                            some ((60, (([] : List Int) ++ (List.drop (Int.toNat 0) (List.take (Int.toNat (wrap64 (((List.length a1 : Nat) : Int) - v5.1))) a1)))), (v7, (0, (0, (0, 0)))))
                           else
                            some (((wrap64 (a0 + 1)), (([] : List Int) ++ (List.drop (Int.toNat 0) (List.take (Int.toNat (wrap64 (((List.length a1 : Nat) : Int) - v5.1))) a1)))), (v7, (0, (0, (0, 0)))))
                        else
                         none
                       else
                        none
                      else
                       if (List.getD a2 (Int.toNat a0) (0, 0)).1 = 11 then
                        if 0 ≤ (wrap64 (((List.length a1 : Nat) : Int) - 1)) then
                         if (wrap64 (((List.length a1 : Nat) : Int) - 1)) < ((List.length a1 : Nat) : Int) then
                          if 0 ≤ (wrap64 (((List.length a1 : Nat) : Int) - 1)) then
                           if (wrap64 (((List.length a1 : Nat) : Int) - 1)) < ((List.length a1 : Nat) : Int) then
                            if (((List.length (([] : List Int) ++ (List.drop (Int.toNat 0) (List.take (Int.toNat (wrap64 (((List.length a1 : Nat) : Int) - v5.1))) a1))) + List.length [(List.getD a1 (Int.toNat (wrap64 (((List.length a1 : Nat) : Int) - 1))) 0), (List.getD a1 (Int.toNat (wrap64 (((List.length a1 : Nat) : Int) - 1))) 0)] : Nat) : Int) * ((8 : Nat) : Int)) ≤ 140737488355328 then
                             if 8 < (wrap64 ((wrap64 (((List.length a1 : Nat) : Int) - v5.1)) + v5.2)) then
                              (spec_l04Copy k a3).bind fun v123 =>
                              some (v0, (v123, (0, (0, (0, 4)))))
                             else
                              if 60 < (wrap64 (a0 + 1)) then
                               some ((60, ((([] : List Int) ++ (List.drop (Int.toNat 0) (List.take (Int.toNat (wrap64 (((List.length a1 : Nat) : Int) - v5.1))) a1))) ++ [(List.getD a1 (Int.toNat (wrap64 (((List.length a1 : Nat) : Int) - 1))) 0), (List.getD a1 (Int.toNat (wrap64 (((List.length a1 : Nat) : Int) - 1))) 0)])), (v7, (0, (0, (0, 0)))))
                              else
                               some (((wrap64 (a0 + 1)), ((([] : List Int) ++ (List.drop (Int.toNat 0) (List.take (Int.toNat (wrap64 (((List.length a1 : Nat) : Int) - v5.1))) a1))) ++ [(List.getD a1 (Int.toNat (wrap64 (((List.length a1 : Nat) : Int) - 1))) 0), (List.getD a1 (Int.toNat (wrap64 (((List.length a1 : Nat) : Int) - 1))) 0)])), (v7, (0, (0, (0, 0)))))
                            else
                             none
                           else
                            none
                          else
                           none
                         else
                          none
                        else
                         none
                       else
                        if (List.getD a2 (Int.toNat a0) (0, 0)).1 = 13 then
                         if (List.getD a2 (Int.toNat a0) (0, 0)).1 = 13 then
                          if 0 ≤ (wrap64 (((List.length a1 : Nat) : Int) - 1)) then
                           if (wrap64 (((List.length a1 : Nat) : Int) - 1)) < ((List.length a1 : Nat) : Int) then
                            if 8 < (wrap64 ((wrap64 (((List.length a1 : Nat) : Int) - v5.1)) + v5.2)) then
                             (spec_l04Copy k a3).bind fun v124 =>
                             some (v0, (v124, (0, (0, (0, 4)))))
                            else
                             if 60 < (wrap64 (a0 + 1)) then
                              some ((60, (([] : List Int) ++ (List.drop (Int.toNat 0) (List.take (Int.toNat (wrap64 (((List.length a1 : Nat) : Int) - v5.1))) a1)))), (v7, ((List.getD a2 (Int.toNat a0) (0, 0)).1, ((List.getD a2 (Int.toNat a0) (0, 0)).2, ((List.getD a1 (Int.toNat (wrap64 (((List.length a1 : Nat) : Int) - 1))) 0), 0)))))
                             else
                              some (((wrap64 (a0 + 1)), (([] : List Int) ++ (List.drop (Int.toNat 0) (List.take (Int.toNat (wrap64 (((List.length a1 : Nat) : Int) - v5.1))) a1)))), (v7, ((List.getD a2 (Int.toNat a0) (0, 0)).1, ((List.getD a2 (Int.toNat a0) (0, 0)).2, ((List.getD a1 (Int.toNat (wrap64 (((List.length a1 : Nat) : Int) - 1))) 0), 0)))))
                           else
                            none
                          else
                           none
                         else
                          if (List.getD a2 (Int.toNat a0) (0, 0)).1 = 14 then
                           if (List.getD a2 (Int.toNat a0) (0, 0)).1 = 14 then
                            if 8 < (wrap64 ((wrap64 (((List.length a1 : Nat) : Int) - v5.1)) + v5.2)) then
                             (spec_l04Copy k a3).bind fun v125 =>
                             some (v0, (v125, (0, (0, (0, 4)))))
                            else
                             if 60 < (wrap64 (a0 + 1)) then
                              some ((60, (([] : List Int) ++ (List.drop (Int.toNat 0) (List.take (Int.toNat (wrap64 (((List.length a1 : Nat) : Int) - v5.1))) a1)))), (v7, ((List.getD a2 (Int.toNat a0) (0, 0)).1, ((List.getD a2 (Int.toNat a0) (0, 0)).2, (0, 0)))))
                             else
                              some (((wrap64 (a0 + 1)), (([] : List Int) ++ (List.drop (Int.toNat 0) (List.take (Int.toNat (wrap64 (((List.length a1 : Nat) : Int) - v5.1))) a1)))), (v7, ((List.getD a2 (Int.toNat a0) (0, 0)).1, ((List.getD a2 (Int.toNat a0) (0, 0)).2, (0, 0)))))
                           else
                            if (List.getD a2 (Int.toNat a0) (0, 0)).1 = 17 then
                             (spec_l04Mod k a6).bind fun v126 =>
                             if (((List.length (([] : List Int) ++ (List.drop (Int.toNat 0) (List.take (Int.toNat (wrap64 (((List.length a1 : Nat) : Int) - v5.1))) a1))) + List.length [v126] : Nat) : Int) * ((8 : Nat) : Int)) ≤ 140737488355328 then
                              if 8 < (wrap64 ((wrap64 (((List.length a1 : Nat) : Int) - v5.1)) + v5.2)) then
                               (spec_l04Copy k a3).bind fun v127 =>
                               some (v0, (v127, (0, (0, (0, 4)))))
                              else
                               if 60 < (wrap64 (a0 + 1)) then
                                some ((60, ((([] : List Int) ++ (List.drop (Int.toNat 0) (List.take (Int.toNat (wrap64 (((List.length a1 : Nat) : Int) - v5.1))) a1))) ++ [v126])), (v7, (0, (0, (0, 0)))))
                               else
                                some (((wrap64 (a0 + 1)), ((([] : List Int) ++ (List.drop (Int.toNat 0) (List.take (Int.toNat (wrap64 (((List.length a1 : Nat) : Int) - v5.1))) a1))) ++ [v126])), (v7, (0, (0, (0, 0)))))
                             else
                              none
                            else
                             if 8 < (wrap64 ((wrap64 (((List.length a1 : Nat) : Int) - v5.1)) + v5.2)) then
                              (spec_l04Copy k a3).bind fun v128 =>
                              some (v0, (v128, (0, (0, (0, 4)))))
                             else
                              if 60 < (wrap64 (a0 + 1)) then
                               some ((60, (([] : List Int) ++ (List.drop (Int.toNat 0) (List.take (Int.toNat (wrap64 (((List.length a1 : Nat) : Int) - v5.1))) a1)))), (v7, (0, (0, (0, 0)))))
                              else
                               some (((wrap64 (a0 + 1)), (([] : List Int) ++ (List.drop (Int.toNat 0) (List.take (Int.toNat (wrap64 (((List.length a1 : Nat) : Int) - v5.1))) a1)))), (v7, (0, (0, (0, 0)))))
                          else
                           if (List.getD a2 (Int.toNat a0) (0, 0)).1 = 15 then
                            if 8 < (wrap64 ((wrap64 (((List.length a1 : Nat) : Int) - v5.1)) + v5.2)) then
                             (spec_l04Copy k a3).bind fun v129 =>
                             some (v0, (v129, (0, (0, (0, 4)))))
                            else
                             if 60 < (wrap64 (a0 + 1)) then
                              some ((60, (([] : List Int) ++ (List.drop (Int.toNat 0) (List.take (Int.toNat (wrap64 (((List.length a1 : Nat) : Int) - v5.1))) a1)))), (v7, ((List.getD a2 (Int.toNat a0) (0, 0)).1, ((List.getD a2 (Int.toNat a0) (0, 0)).2, (0, 0)))))
                             else
                              some (((wrap64 (a0 + 1)), (([] : List Int) ++ (List.drop (Int.toNat 0) (List.take (Int.toNat (wrap64 (((List.length a1 : Nat) : Int) - v5.1))) a1)))), (v7, ((List.getD a2 (Int.toNat a0) (0, 0)).1, ((List.getD a2 (Int.toNat a0) (0, 0)).2, (0, 0)))))
                           else
                            if (List.getD a2 (Int.toNat a0) (0, 0)).1 = 17 then
                             (spec_l04Mod k a6).bind fun v130 =>
                             if (((List.length (([] : List Int) ++ (List.drop (Int.toNat 0) (List.take (Int.toNat (wrap64 (((List.length a1 : Nat) : Int) - v5.1))) a1))) + List.length [v130] : Nat) : Int) * ((8 : Nat) : Int)) ≤ 140737488355328 then
                              if 8 < (wrap64 ((wrap64 (((List.length a1 : Nat) : Int) - v5.1)) + v5.2)) then
                               (spec_l04Copy k a3).bind fun v131 =>
                               some (v0, (v131, (0, (0, (0, 4)))))
                              else
                               if 60 < (wrap64 (a0 + 1)) then
                                some ((60, ((([] : List Int) ++ (List.drop (Int.toNat 0) (List.take (Int.toNat (wrap64 (((List.length a1 : Nat) : Int) - v5.1))) a1))) ++ [v130])), (v7, (0, (0, (0, 0)))))
                               else
                                some (((wrap64 (a0 + 1)), ((([] : List Int) ++ (List.drop (Int.toNat 0) (List.take (Int.toNat (wrap64 (((List.length a1 : Nat) : Int) - v5.1))) a1))) ++ [v130])), (v7, (0, (0, (0, 0)))))
                             else
                              none
                            else
                             if 8 < (wrap64 ((wrap64 (((List.length a1 : Nat) : Int) - v5.1)) + v5.2)) then
                              (spec_l04Copy k a3).bind fun v132 =>
                              some (v0, (v132, (0, (0, (0, 4)))))
                             else
                              if 60 < (wrap64 (a0 + 1)) then
                               some ((60, (([] : List Int) ++ (List.drop (Int.toNat 0) (List.take (Int.toNat (wrap64 (((List.length a1 : Nat) : Int) - v5.1))) a1)))), (v7, (0, (0, (0, 0)))))
                              else
                               some (((wrap64 (a0 + 1)), (([] : List Int) ++ (List.drop (Int.toNat 0) (List.take (Int.toNat (wrap64 (((List.length a1 : Nat) : Int) - v5.1))) a1)))), (v7, (0, (0, (0, 0)))))
                        else
                         if (List.getD a2 (Int.toNat a0) (0, 0)).1 = 16 then
                          if 0 ≤ (wrap64 (((List.length a1 : Nat) : Int) - 1)) then
                           if (wrap64 (((List.length a1 : Nat) : Int) - 1)) < ((List.length a1 : Nat) : Int) then
                            if 8 < (wrap64 ((wrap64 (((List.length a1 : Nat) : Int) - v5.1)) + v5.2)) then
                             (spec_l04Copy k a3).bind fun v133 =>
                             some (v0, (v133, (0, (0, (0, 4)))))
                            else
                             if 60 < (wrap64 (a0 + 1)) then
                              some ((60, (([] : List Int) ++ (List.drop (Int.toNat 0) (List.take (Int.toNat (wrap64 (((List.length a1 : Nat) : Int) - v5.1))) a1)))), (v7, ((List.getD a2 (Int.toNat a0) (0, 0)).1, ((List.getD a2 (Int.toNat a0) (0, 0)).2, ((List.getD a1 (Int.toNat (wrap64 (((List.length a1 : Nat) : Int) - 1))) 0), 0)))))
                             else
                              some (((wrap64 (a0 + 1)), (([] : List Int) ++ (List.drop (Int.toNat 0) (List.take (Int.toNat (wrap64 (((List.length a1 : Nat) : Int) - v5.1))) a1)))), (v7, ((List.getD a2 (Int.toNat a0) (0, 0)).1, ((List.getD a2 (Int.toNat a0) (0, 0)).2, ((List.getD a1 (Int.toNat (wrap64 (((List.length a1 : Nat) : Int) - 1))) 0), 0)))))
                           else
                            none
                          else
                           none
                         else
                          if (List.getD a2 (Int.toNat a0) (0, 0)).1 = 14 then
                           if (List.getD a2 (Int.toNat a0) (0, 0)).1 = 14 then
                            if 8 < (wrap64 ((wrap64 (((List.length a1 : Nat) : Int) - v5.1)) + v5.2)) then
                             (spec_l04Copy k a3).bind fun v134 =>
                             some (v0, (v134, (0, (0, (0, 4)))))
                            else
                             if 60 < (wrap64 (a0 + 1)) then
                              some ((60, (([] : List Int) ++ (List.drop (Int.toNat 0) (List.take (Int.toNat (wrap64 (((List.length a1 : Nat) : Int) - v5.1))) a1)))), (v7, ((List.getD a2 (Int.toNat a0) (0, 0)).1, ((List.getD a2 (Int.toNat a0) (0, 0)).2, (0, 0)))))
                             else
                              some (((wrap64 (a0 + 1)), (([] : List Int) ++ (List.drop (Int.toNat 0) (List.take (Int.toNat (wrap64 (((List.length a1 : Nat) : Int) - v5.1))) a1)))), (v7, ((List.getD a2 (Int.toNat a0) (0, 0)).1, ((List.getD a2 (Int.toNat a0) (0, 0)).2, (0, 0)))))
                           else
                            if (List.getD a2 (Int.toNat a0) (0, 0)).1 = 17 then
                             (spec_l04Mod k a6).bind fun v135 =>
                             if (((List.length (([] : List Int) ++ (List.drop (Int.toNat 0) (List.take (Int.toNat (wrap64 (((List.length a1 : Nat) : Int) - v5.1))) a1))) + List.length [v135] : Nat) : Int) * ((8 : Nat) : Int)) ≤ 140737488355328 then
                              if 8 < (wrap64 ((wrap64 (((List.length a1 : Nat) : Int) - v5.1)) + v5.2)) then
                               (spec_l04Copy k a3).bind fun v136 =>
                               some (v0, (v136, (0, (0, (0, 4)))))
                              else
                               if 60 < (wrap64 (a0 + 1)) then
                                some ((60, ((([] : List Int) ++ (List.drop (Int.toNat 0) (List.take (Int.toNat (wrap64 (((List.length a1 : Nat) : Int) - v5.1))) a1))) ++ [v135])), (v7, (0, (0, (0, 0)))))
                               else
                                some (((wrap64 (a0 + 1)), ((([] : List Int) ++ (List.drop (Int.toNat 0) (List.take (Int.toNat (wrap64 (((List.length a1 : Nat) : Int) - v5.1))) a1))) ++ [v135])), (v7, (0, (0, (0, 0)))))
                             else
                              none
                            else
                             if 8 < (wrap64 ((wrap64 (((List.length a1 : Nat) : Int) - v5.1)) + v5.2)) then
                              (spec_l04Copy k a3).bind fun v137 =>
                              some (v0, (v137, (0, (0, (0, 4)))))
                             else
                              if 60 < (wrap64 (a0 + 1)) then
                               some ((60, (([] : List Int) ++ (List.drop (Int.toNat 0) (List.take (Int.toNat (wrap64 (((List.length a1 : Nat) : Int) - v5.1))) a1)))), (v7, (0, (0, (0, 0)))))
                              else
                               some (((wrap64 (a0 + 1)), (([] : List Int) ++ (List.drop (Int.toNat 0) (List.take (Int.toNat (wrap64 (((List.length a1 : Nat) : Int) - v5.1))) a1)))), (v7, (0, (0, (0, 0)))))
                          else
                           if (List.getD a2 (Int.toNat a0) (0, 0)).1 = 15 then
                            if 8 < (wrap64 ((wrap64 (((List.length a1 : Nat) : Int) - v5.1)) + v5.2)) then
                             (spec_l04Copy k a3).bind fun v138 =>
                             some (v0, (v138, (0, (0, (0, 4)))))
                            else
                             if 60 < (wrap64 (a0 + 1)) then
                              some ((60, (([] : List Int) ++ (List.drop (Int.toNat 0) (List.take (Int.toNat (wrap64 (((List.length a1 : Nat) : Int) - v5.1))) a1)))), (v7, ((List.getD a2 (Int.toNat a0) (0, 0)).1, ((List.getD a2 (Int.toNat a0) (0, 0)).2, (0, 0)))))
                             else
                              some (((wrap64 (a0 + 1)), (([] : List Int) ++ (List.drop (Int.toNat 0) (List.take (Int.toNat (wrap64 (((List.length a1 : Nat) : Int) - v5.1))) a1)))), (v7, ((List.getD a2 (Int.toNat a0) (0, 0)).1, ((List.getD a2 (Int.toNat a0) (0, 0)).2, (0, 0)))))
                           else
                            if (List.getD a2 (Int.toNat a0) (0, 0)).1 = 17 then
                             (spec_l04Mod k a6).bind fun v139 =>
                             if (((List.length (([] : List Int) ++ (List.drop (Int.toNat 0) (List.take (Int.toNat (wrap64 (((List.length a1 : Nat) : Int) - v5.1))) a1))) + List.length [v139] : Nat) : Int) * ((8 : Nat) : Int)) ≤ 140737488355328 then
                              if 8 < (wrap64 ((wrap64 (((List.length a1 : Nat) : Int) - v5.1)) + v5.2)) then
                               (spec_l04Copy k a3).bind fun v140 =>
                               some (v0, (v140, (0, (0, (0, 4)))))
                              else
                               if 60 < (wrap64 (a0 + 1)) then
                                some ((60, ((([] : List Int) ++ (List.drop (Int.toNat 0) (List.take (Int.toNat (wrap64 (((List.length a1 : Nat) : Int) - v5.1))) a1))) ++ [v139])), (v7, (0, (0, (0, 0)))))
                               else
                                some (((wrap64 (a0 + 1)), ((([] : List Int) ++ (List.drop (Int.toNat 0) (List.take (Int.toNat (wrap64 (((List.length a1 : Nat) : Int) - v5.1))) a1))) ++ [v139])), (v7, (0, (0, (0, 0)))))
                             else
                              none
                            else
                             if 8 < (wrap64 ((wrap64 (((List.length a1 : Nat) : Int) - v5.1)) + v5.2)) then
                              (spec_l04Copy k a3).bind fun v141 =>
                              some (v0, (v141, (0, (0, (0, 4)))))
                             else
                              if 60 < (wrap64 (a0 + 1)) then
                               some ((60, (([] : List Int) ++ (List.drop (Int.toNat 0) (List.take (Int.toNat (wrap64 (((List.length a1 : Nat) : Int) - v5.1))) a1)))), (v7, (0, (0, (0, 0)))))
                              else
                               some (((wrap64 (a0 + 1)), (([] : List Int) ++ (List.drop (Int.toNat 0) (List.take (Int.toNat (wrap64 (((List.length a1 : Nat) : Int) - v5.1))) a1)))), (v7, (0, (0, (0, 0))))) else none
          else
           none
         else
          none
      else
       none
     else
      none
   else
    (spec_l04Copy k a3).bind fun v142 =>
    some (v0, (v142, (0, (0, (0, 6)))))
  else
   (spec_l04Copy k a3).bind fun v143 =>
   some (v0, (v143, (0, (0, (0, 6)))))
noncomputable def g_spec_StepCpu : (Int × List Int) × ((List (Int × Int))) × List Int × (Int × Int) × Int → Option ((Int × List Int) × List Int × (Int × Int × Int × Int)) := spec_StepCpu_ (fun _ => g_spec_CodeOk) (fun _ => g_spec_CpuOk) (fun _ => g_spec_LoadCell) (fun _ => g_spec_StoreCell) (fun _ => g_spec_l04Copy) (fun _ => g_spec_l04Mod) (fun _ => g_spec_l06Copy) (fun _ => g_spec_l06Needs) (fun _ => g_spec_l06Sum) 0
theorem e_spec_StepCpu : ∀ x b, g_spec_StepCpu x = some b → ∃ k, spec_StepCpu_ (fun _ => g_spec_CodeOk) (fun _ => g_spec_CpuOk) (fun _ => g_spec_LoadCell) (fun _ => g_spec_StoreCell) (fun _ => g_spec_l04Copy) (fun _ => g_spec_l04Mod) (fun _ => g_spec_l06Copy) (fun _ => g_spec_l06Needs) (fun _ => g_spec_l06Sum) k x = some b := fun x b h => ⟨0, h⟩
/- spec_l07Answers -/
def con_spec_l07Answers (f : Nat → Int → Option (Int)) : Con := ⟨[.c (.int .i64)], 1, [.v false [.int .i64]], f⟩
def spec_l07Answers_ (k : Nat) : Int → Option (Int)
  | a0 =>
  if a0 = 13 then
   if a0 = 13 then
    some 1
   else
    if a0 = 14 then
     some 2
    else
     some 0
  else
   if a0 = 15 then
    some 1
   else
    if a0 = 14 then
     some 2
    else
     some 0
noncomputable def g_spec_l07Answers : Int → Option (Int) := spec_l07Answers_  0
theorem e_spec_l07Answers : ∀ x b, g_spec_l07Answers x = some b → ∃ k, spec_l07Answers_  k x = some b := fun x b h => ⟨0, h⟩
/- spec_PortOk -/
def con_spec_PortOk (f : Nat → (Int × Int × Int × Int × Int) → Option (Bool)) : Con := ⟨[.agg [.int .i64, .int .i64, .int .i64, .int .i64, .int .i64]], 1, [.v false [.bool]], f⟩
def spec_PortOk_ (spec_l01In : Nat → Int × Int × Int → Option (Bool)) (k : Nat) : (Int × Int × Int × Int × Int) → Option (Bool)
  | (a0, a1, a2, a3, a4) =>
  (spec_l01In k (a1, (1, 4))).bind fun v0 =>
  if v0 = true then
   (spec_l01In k (a2, (1, 4))).bind fun v1 =>
   if v1 = true then
    if a1 = a2 then
     some false
    else
     if a0 = 1 then
      (spec_l01In k (a3, (1, 6))).bind fun v2 =>
      if v2 = true then
       some (decide (a4 = 0))
      else
       some false
     else
      if a0 = 2 then
       if a3 = 1 then
        (spec_l01In k (a4, (1, 100))).bind fun v3 =>
        some v3
       else
        some false
      else
       some false
   else
    some false
  else
   some false
noncomputable def g_spec_PortOk : (Int × Int × Int × Int × Int) → Option (Bool) := spec_PortOk_ (fun _ => g_spec_l01In) 0
theorem e_spec_PortOk : ∀ x b, g_spec_PortOk x = some b → ∃ k, spec_PortOk_ (fun _ => g_spec_l01In) k x = some b := fun x b h => ⟨0, h⟩
/- spec_l08Copy -/
def con_spec_l08Copy (f : Nat → ((List (Int × Int))) → Option (((List (Int × Int))))) : Con := ⟨[.agg [.sl (.pair (.int .i64) (.int .i64))]], 1, [.v true [.own (.pair (.int .i64) (.int .i64)) 312]], f⟩
def spec_l08Copy_ (k : Nat) : ((List (Int × Int))) → Option (((List (Int × Int))))
  | a0 =>
  if (((List.length ([] : List (Int × Int)) + List.length a0 : Nat) : Int) * ((16 : Nat) : Int)) ≤ 140737488355328 then some (([] : List (Int × Int)) ++ a0) else none
noncomputable def g_spec_l08Copy : ((List (Int × Int))) → Option (((List (Int × Int)))) := spec_l08Copy_  0
theorem e_spec_l08Copy : ∀ x b, g_spec_l08Copy x = some b → ∃ k, spec_l08Copy_  k x = some b := fun x b h => ⟨0, h⟩
/- spec_SendPort -/
def con_spec_SendPort (f : Nat → (Int × Int × Int × Int × Int) × ((List (Int × Int))) × Int × Int → Option (((List (Int × Int))) × Int)) : Con := ⟨[.agg [.int .i64, .int .i64, .int .i64, .int .i64, .int .i64], .agg [.sl (.pair (.int .i64) (.int .i64))], .c (.int .i64), .c (.int .i64)], 2, [.v true [.own (.pair (.int .i64) (.int .i64)) 312], .v false [.int .i64]], f⟩
def spec_SendPort_ (spec_PortOk : Nat → (Int × Int × Int × Int × Int) → Option (Bool)) (spec_l08Copy : Nat → ((List (Int × Int))) → Option (((List (Int × Int))))) (k : Nat) : (Int × Int × Int × Int × Int) × ((List (Int × Int))) × Int × Int → Option (((List (Int × Int))) × Int)
  | ((a0, a1, a2, a3, a4), a5, a6, a7) =>
  (spec_l08Copy k a5).bind fun v0 =>
  (spec_PortOk k (a0, (a1, (a2, (a3, a4))))).bind fun v1 =>
  if v1 = true then
   if a0 = 2 then
    some ([(a6, a7)], 0)
   else
    (spec_PortOk k (a0, (a1, (a2, (a3, a4))))).bind fun v2 =>
    if v2 = true then
     if a3 ≤ ((List.length a5 : Nat) : Int) then
      some (v0, 1)
     else
      if (((List.length v0 + List.length [(a6, a7)] : Nat) : Int) * ((16 : Nat) : Int)) ≤ 140737488355328 then some ((v0 ++ [(a6, a7)]), 0) else none
    else
     some (v0, 1)
  else
   (spec_PortOk k (a0, (a1, (a2, (a3, a4))))).bind fun v3 =>
   if v3 = true then
    if a3 ≤ ((List.length a5 : Nat) : Int) then
     some (v0, 1)
    else
     if (((List.length v0 + List.length [(a6, a7)] : Nat) : Int) * ((16 : Nat) : Int)) ≤ 140737488355328 then some ((v0 ++ [(a6, a7)]), 0) else none
   else
    some (v0, 1)
noncomputable def g_spec_SendPort : (Int × Int × Int × Int × Int) × ((List (Int × Int))) × Int × Int → Option (((List (Int × Int))) × Int) := spec_SendPort_ (fun _ => g_spec_PortOk) (fun _ => g_spec_l08Copy) 0
theorem e_spec_SendPort : ∀ x b, g_spec_SendPort x = some b → ∃ k, spec_SendPort_ (fun _ => g_spec_PortOk) (fun _ => g_spec_l08Copy) k x = some b := fun x b h => ⟨0, h⟩
/- spec_TakePort -/
def con_spec_TakePort (f : Nat → (Int × Int × Int × Int × Int) × ((List (Int × Int))) × Int → Option (((List (Int × Int))) × Int × Int)) : Con := ⟨[.agg [.int .i64, .int .i64, .int .i64, .int .i64, .int .i64], .agg [.sl (.pair (.int .i64) (.int .i64))], .c (.int .i64)], 3, [.v true [.own (.pair (.int .i64) (.int .i64)) 312], .v false [.int .i64], .v false [.int .i64]], f⟩
def spec_TakePort_ (spec_PortOk : Nat → (Int × Int × Int × Int × Int) → Option (Bool)) (spec_l08Copy : Nat → ((List (Int × Int))) → Option (((List (Int × Int))))) (k : Nat) : (Int × Int × Int × Int × Int) × ((List (Int × Int))) × Int → Option (((List (Int × Int))) × Int × Int)
  | ((a0, a1, a2, a3, a4), a5, a6) =>
  (spec_l08Copy k a5).bind fun v0 =>
  (spec_PortOk k (a0, (a1, (a2, (a3, a4))))).bind fun v1 =>
  if v1 = true then
   if ((List.length a5 : Nat) : Int) = 0 then
    some (v0, (0, 2))
   else
    if 0 ≤ 0 then
     if 0 < ((List.length a5 : Nat) : Int) then
      if a0 = 1 then
       if 0 ≤ 1 then
        if 1 ≤ ((List.length a5 : Nat) : Int) then
         if (((List.length ([] : List (Int × Int)) + List.length (List.drop (Int.toNat 1) (List.take (Int.toNat ((List.length a5 : Nat) : Int)) a5)) : Nat) : Int) * ((16 : Nat) : Int)) ≤ 140737488355328 then some ((([] : List (Int × Int)) ++ (List.drop (Int.toNat 1) (List.take (Int.toNat ((List.length a5 : Nat) : Int)) a5))), ((List.getD a5 (Int.toNat 0) (0, 0)).1, 0)) else none
        else
         none
       else
        none
      else
       if (List.getD a5 (Int.toNat 0) (0, 0)).2 < a6 then
        if (wrap64 (a6 - (List.getD a5 (Int.toNat 0) (0, 0)).2)) < 0 then
         some (v0, ((List.getD a5 (Int.toNat 0) (0, 0)).1, 3))
        else
         if a4 < (wrap64 (a6 - (List.getD a5 (Int.toNat 0) (0, 0)).2)) then
          some (v0, ((List.getD a5 (Int.toNat 0) (0, 0)).1, 3))
         else
          some (v0, ((List.getD a5 (Int.toNat 0) (0, 0)).1, 0))
       else
        some (v0, ((List.getD a5 (Int.toNat 0) (0, 0)).1, 0))
     else
      none
    else
     none
  else
   some (v0, (0, 2))
noncomputable def g_spec_TakePort : (Int × Int × Int × Int × Int) × ((List (Int × Int))) × Int → Option (((List (Int × Int))) × Int × Int) := spec_TakePort_ (fun _ => g_spec_PortOk) (fun _ => g_spec_l08Copy) 0
theorem e_spec_TakePort : ∀ x b, g_spec_TakePort x = some b → ∃ k, spec_TakePort_ (fun _ => g_spec_PortOk) (fun _ => g_spec_l08Copy) k x = some b := fun x b h => ⟨0, h⟩
/- spec_l12Effect -/
def con_spec_l12Effect (f : Nat → ((List (Int × Int)) × (List (Int × Int)) × (List (Int × (Int × (Int × (Int × Int))))) × (List (Int × (Int × Int))) × List ByteArray × List Int × (List (Int × ((Int × (List Int)) × (Int × (Int × Int))))) × (List (List (Int × Int))) × List Int × Int × Bool × (List (Int × (Int × (Int × (Int × Int)))))) × Int × (Int × Int × Int × Int) × List Int → Option (List Int × Int × (Unit × Unit × Unit × Unit × Unit × List Int × (List (Int × ((Int × (List Int)) × (Int × (Int × Int))))) × (List (List (Int × Int))) × List Int × Int × Bool × Unit))) : Con := ⟨[.pw [.c (.sl (.pair (.int .i64) (.int .i64))), .c (.sl (.pair (.int .i64) (.int .i64))), .c (.sl (.pair (.int .i64) (.pair (.int .i64) (.pair (.int .i64) (.pair (.int .i64) (.int .i64)))))), .c (.sl (.pair (.int .i64) (.pair (.int .i64) (.int .i64)))), .c (.sl .str), .row (.int .i64) 3, .nrow (.pair (.f (.int .i64)) (.pair (.pair (.f (.int .i64)) (.sl (.int .i64))) (.pair (.f (.int .i64)) (.pair (.f (.int .i64)) (.f (.int .i64)))))) 147, .nrow (.sl (.pair (.int .i64) (.int .i64))) 227, .row (.int .i64) 3, .c (.int .i64), .c (.bool), .c (.sl (.pair (.int .i64) (.pair (.int .i64) (.pair (.int .i64) (.pair (.int .i64) (.int .i64))))))] 90, .c (.int .i64), .agg [.int .i64, .int .i64, .int .i64, .int .i64], .c (.sl (.int .i64))], 2, [.v false [.own (.int .i64) 3], .v false [.int .i64], .box [.keep, .keep, .keep, .keep, .keep, .own (.int .i64) 3, .nown (.pair (.f (.int .i64)) (.pair (.pair (.f (.int .i64)) (.sl (.int .i64))) (.pair (.f (.int .i64)) (.pair (.f (.int .i64)) (.f (.int .i64)))))) 147, .nown (.sl (.pair (.int .i64) (.int .i64))) 227, .own (.int .i64) 3, .int .i64, .bool, .keep] 90], f⟩
def spec_l12Effect_ (spec_SendPort : Nat → (Int × Int × Int × Int × Int) × ((List (Int × Int))) × Int × Int → Option (((List (Int × Int))) × Int)) (spec_TakePort : Nat → (Int × Int × Int × Int × Int) × ((List (Int × Int))) × Int → Option (((List (Int × Int))) × Int × Int)) (k : Nat) : ((List (Int × Int)) × (List (Int × Int)) × (List (Int × (Int × (Int × (Int × Int))))) × (List (Int × (Int × Int))) × List ByteArray × List Int × (List (Int × ((Int × (List Int)) × (Int × (Int × Int))))) × (List (List (Int × Int))) × List Int × Int × Bool × (List (Int × (Int × (Int × (Int × Int)))))) × Int × (Int × Int × Int × Int) × List Int → Option (List Int × Int × (Unit × Unit × Unit × Unit × Unit × List Int × (List (Int × ((Int × (List Int)) × (Int × (Int × Int))))) × (List (List (Int × Int))) × List Int × Int × Bool × Unit))
  | ((a0, a1, a2, a3, a4, a5, a6, a7, a8, a9, a10, a11), a12, (a13, a14, a15, a16), a17) =>
  if a13 = 13 then
   if a13 = 13 then
    if ((List.length a2 : Nat) : Int) ≤ a14 then
     some (([] : List Int), (7, ((), ((), ((), ((), ((), (a5, (a6, (a7, (a8, (a9, (a10, ())))))))))))))
    else
     if 0 ≤ a14 then
      if a14 < ((List.length a2 : Nat) : Int) then
       if a13 = 13 then
        if (List.getD a2 (Int.toNat a14) (0, (0, (0, (0, 0))))).2.1 = a12 then
         if 0 ≤ a14 then
          if a14 < ((List.length a7 : Nat) : Int) then (spec_SendPort k ((List.getD a2 (Int.toNat a14) (0, (0, (0, (0, 0))))), ((List.getD a7 (Int.toNat a14) ([] : List (Int × Int))), (a15, a9)))).bind fun v0 =>
           if 0 ≤ a14 then
            if a14 < ((List.length a7 : Nat) : Int) then some ([v0.2], (0, ((), ((), ((), ((), ((), (a5, (a6, ((List.set a7 (Int.toNat a14) v0.1), (a8, (a9, (a10, ()))))))))))))) else none
           else
            none else none
         else
          none
        else
         some (([] : List Int), (7, ((), ((), ((), ((), ((), (a5, (a6, (a7, (a8, (a9, (a10, ())))))))))))))
       else
        if (List.getD a2 (Int.toNat a14) (0, (0, (0, (0, 0))))).2.2.1 = a12 then
         if 0 ≤ a14 then
          if a14 < ((List.length a7 : Nat) : Int) then (spec_TakePort k ((List.getD a2 (Int.toNat a14) (0, (0, (0, (0, 0))))), ((List.getD a7 (Int.toNat a14) ([] : List (Int × Int))), a9))).bind fun v1 =>
           if 0 ≤ a14 then
            if a14 < ((List.length a7 : Nat) : Int) then some ([v1.2.1, v1.2.2], (0, ((), ((), ((), ((), ((), (a5, (a6, ((List.set a7 (Int.toNat a14) v1.1), (a8, (a9, (a10, ()))))))))))))) else none
           else
            none else none
         else
          none
        else
         some (([] : List Int), (7, ((), ((), ((), ((), ((), (a5, (a6, (a7, (a8, (a9, (a10, ())))))))))))))
      else
       none
     else
      none
   else
    if a13 = 15 then
     if a14 < ((List.length a17 : Nat) : Int) then
      if 0 ≤ a14 then
       if a14 < ((List.length a17 : Nat) : Int) then some ([(List.getD a17 (Int.toNat a14) 0)], (0, ((), ((), ((), ((), ((), (a5, (a6, (a7, (a8, (a9, (a10, ()))))))))))))) else none
      else
       none
     else
      some ([0], (0, ((), ((), ((), ((), ((), (a5, (a6, (a7, (a8, (a9, (a10, ())))))))))))))
    else
     if a13 = 16 then
      if 2 = 0 then
       none
      else
       if 0 ≤ (wrap64 ((wrap64 ((wrap64 (2 * a12)) - 2)) + (Int.tmod a14 2))) then
        if (wrap64 ((wrap64 ((wrap64 (2 * a12)) - 2)) + (Int.tmod a14 2))) < ((List.length a8 : Nat) : Int) then some (([] : List Int), (0, ((), ((), ((), ((), ((), (a5, (a6, (a7, ((List.set a8 (Int.toNat (wrap64 ((wrap64 ((wrap64 (2 * a12)) - 2)) + (Int.tmod a14 2)))) a15), (a9, (a10, ()))))))))))))) else none
       else
        none
     else
      some (([] : List Int), (0, ((), ((), ((), ((), ((), (a5, (a6, (a7, (a8, (a9, (a10, ())))))))))))))
  else
   if a13 = 14 then
    if ((List.length a2 : Nat) : Int) ≤ a14 then
     some (([] : List Int), (7, ((), ((), ((), ((), ((), (a5, (a6, (a7, (a8, (a9, (a10, ())))))))))))))
    else
     if 0 ≤ a14 then
      if a14 < ((List.length a2 : Nat) : Int) then
       if a13 = 13 then
        if (List.getD a2 (Int.toNat a14) (0, (0, (0, (0, 0))))).2.1 = a12 then
         if 0 ≤ a14 then
          if a14 < ((List.length a7 : Nat) : Int) then (spec_SendPort k ((List.getD a2 (Int.toNat a14) (0, (0, (0, (0, 0))))), ((List.getD a7 (Int.toNat a14) ([] : List (Int × Int))), (a15, a9)))).bind fun v2 =>
           if 0 ≤ a14 then
            if a14 < ((List.length a7 : Nat) : Int) then some ([v2.2], (0, ((), ((), ((), ((), ((), (a5, (a6, ((List.set a7 (Int.toNat a14) v2.1), (a8, (a9, (a10, ()))))))))))))) else none
           else
            none else none
         else
          none
        else
         some (([] : List Int), (7, ((), ((), ((), ((), ((), (a5, (a6, (a7, (a8, (a9, (a10, ())))))))))))))
       else
        if (List.getD a2 (Int.toNat a14) (0, (0, (0, (0, 0))))).2.2.1 = a12 then
         if 0 ≤ a14 then
          if a14 < ((List.length a7 : Nat) : Int) then (spec_TakePort k ((List.getD a2 (Int.toNat a14) (0, (0, (0, (0, 0))))), ((List.getD a7 (Int.toNat a14) ([] : List (Int × Int))), a9))).bind fun v3 =>
           if 0 ≤ a14 then
            if a14 < ((List.length a7 : Nat) : Int) then some ([v3.2.1, v3.2.2], (0, ((), ((), ((), ((), ((), (a5, (a6, ((List.set a7 (Int.toNat a14) v3.1), (a8, (a9, (a10, ()))))))))))))) else none
           else
            none else none
         else
          none
        else
         some (([] : List Int), (7, ((), ((), ((), ((), ((), (a5, (a6, (a7, (a8, (a9, (a10, ())))))))))))))
      else
       none
     else
      none
   else
    if a13 = 15 then
     if a14 < ((List.length a17 : Nat) : Int) then
      if 0 ≤ a14 then
       if a14 < ((List.length a17 : Nat) : Int) then some ([(List.getD a17 (Int.toNat a14) 0)], (0, ((), ((), ((), ((), ((), (a5, (a6, (a7, (a8, (a9, (a10, ()))))))))))))) else none
      else
       none
     else
      some ([0], (0, ((), ((), ((), ((), ((), (a5, (a6, (a7, (a8, (a9, (a10, ())))))))))))))
    else
     if a13 = 16 then
      if 2 = 0 then
       none
      else
       if 0 ≤ (wrap64 ((wrap64 ((wrap64 (2 * a12)) - 2)) + (Int.tmod a14 2))) then
        if (wrap64 ((wrap64 ((wrap64 (2 * a12)) - 2)) + (Int.tmod a14 2))) < ((List.length a8 : Nat) : Int) then some (([] : List Int), (0, ((), ((), ((), ((), ((), (a5, (a6, (a7, ((List.set a8 (Int.toNat (wrap64 ((wrap64 ((wrap64 (2 * a12)) - 2)) + (Int.tmod a14 2)))) a15), (a9, (a10, ()))))))))))))) else none
       else
        none
     else
      some (([] : List Int), (0, ((), ((), ((), ((), ((), (a5, (a6, (a7, (a8, (a9, (a10, ())))))))))))))
noncomputable def g_spec_l12Effect : ((List (Int × Int)) × (List (Int × Int)) × (List (Int × (Int × (Int × (Int × Int))))) × (List (Int × (Int × Int))) × List ByteArray × List Int × (List (Int × ((Int × (List Int)) × (Int × (Int × Int))))) × (List (List (Int × Int))) × List Int × Int × Bool × (List (Int × (Int × (Int × (Int × Int)))))) × Int × (Int × Int × Int × Int) × List Int → Option (List Int × Int × (Unit × Unit × Unit × Unit × Unit × List Int × (List (Int × ((Int × (List Int)) × (Int × (Int × Int))))) × (List (List (Int × Int))) × List Int × Int × Bool × Unit)) := spec_l12Effect_ (fun _ => g_spec_SendPort) (fun _ => g_spec_TakePort) 0
theorem e_spec_l12Effect : ∀ x b, g_spec_l12Effect x = some b → ∃ k, spec_l12Effect_ (fun _ => g_spec_SendPort) (fun _ => g_spec_TakePort) k x = some b := fun x b h => ⟨0, h⟩
end Go.Sx.T
