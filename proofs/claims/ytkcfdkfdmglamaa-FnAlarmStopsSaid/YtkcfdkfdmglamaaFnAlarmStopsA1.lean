/- Functions of the program as functions of Lean, and that the program keeps to them. -/
import Derived.Test.YtkcfdkfdmglamaaFnAlarmStopsA0
set_option maxRecDepth 100000
set_option linter.unusedVariables false
set_option linter.unusedSimpArgs false
namespace Go.Proofs
end Go.Proofs
namespace Go.Sx.T
open Go Go.Sx Go.Proofs Go.RowKit
/- laws_FnAlarmStops -/
def con_laws_FnAlarmStops (f : Nat → List Int → Option (Bool)) : Con := ⟨[.c (.sl (.int .u8))], 1, [.v false [.bool]], f⟩
def laws_FnAlarmStops_L8 (impl_Latched : Nat → ((List (Int × (Int × Int)))) × ((List (Int × (ByteArray × ByteArray)))) → Option (Bool)) (impl_RunDevice : Nat → ((List (Int × (ByteArray × ByteArray)))) → Option ((Int × Int × Int × Int × Int × Int × Int × Int × List Int × Int × Int × Bool × Int × Int × ByteArray × (List (Int × (Int × Int))) × Int) × Bool)) (impl_StopsOnAlarm : Nat → ((List (Int × (Int × Int)))) → Option (Bool)) (laws_big : Nat → List Int → Option (Bool)) (spec_DrawIns : Nat → List Int → Option (((List (Int × (ByteArray × ByteArray)))))) (spec_Latched : Nat → ((List (Int × (Int × Int)))) × ((List (Int × (ByteArray × ByteArray)))) → Option (Bool)) : Nat → Int × (List (Int × (ByteArray × ByteArray))) × Int × Int × Int × Int × Int × Int × Int × Int × Int × Int × Bool × Int × Int × ByteArray × Int × List Int × (List (Int × (Int × Int))) × Unit → Option (Bool)
  | 0, _ => none
  | k + 1, (b0, b1, b2, b3, b4, b5, b6, b7, b8, b9, b10, b11, b12, b13, b14, b15, b16, b17, b18, ()) =>
    if b0 < ((List.length b1 : Nat) : Int) then
     if 0 ≤ b0 then
      if b0 < ((List.length b18 : Nat) : Int) then
       if (List.getD b18 (Int.toNat b0) (0, (0, 0))).2.1 = 0 then
        if 0 ≤ b0 then
         if b0 < ((List.length b1 : Nat) : Int) then
          if (List.getD b1 (Int.toNat b0) (0, ((⟨#[]⟩ : ByteArray), (⟨#[]⟩ : ByteArray)))).1 = 0 then
           if 0 < b0 then
            if 0 ≤ b0 then
             if b0 < ((List.length b1 : Nat) : Int) then
              if (List.getD b1 (Int.toNat b0) (0, ((⟨#[]⟩ : ByteArray), (⟨#[]⟩ : ByteArray)))).2.1 = (⟨#[]⟩ : ByteArray) then
               if 0 ≤ b0 then
                if b0 < ((List.length b1 : Nat) : Int) then
                 if (List.getD b1 (Int.toNat b0) (0, ((⟨#[]⟩ : ByteArray), (⟨#[]⟩ : ByteArray)))).2.2 = (⟨#[]⟩ : ByteArray) then
                  if 0 ≤ (wrap64 (b0 - 1)) then
                   if (wrap64 (b0 - 1)) < ((List.length b18 : Nat) : Int) then
                    if (List.getD b18 (Int.toNat (wrap64 (b0 - 1))) (0, (0, 0))).2.1 = 0 then
                     laws_FnAlarmStops_L8 impl_Latched impl_RunDevice impl_StopsOnAlarm laws_big spec_DrawIns spec_Latched k ((wrap64 (b0 + 1)), b1, b2, b3, b4, b5, b6, b7, b8, b9, b10, b11, b12, b13, b14, b15, b16, b17, b18, ())
                    else
                     if (List.getD b18 (Int.toNat b0) (0, (0, 0))).2.1 = 0 then
                      some false
                     else
                      laws_FnAlarmStops_L8 impl_Latched impl_RunDevice impl_StopsOnAlarm laws_big spec_DrawIns spec_Latched k ((wrap64 (b0 + 1)), b1, b2, b3, b4, b5, b6, b7, b8, b9, b10, b11, b12, b13, b14, b15, b16, b17, b18, ())
                   else
                    none
                  else
                   none
                 else
                  laws_FnAlarmStops_L8 impl_Latched impl_RunDevice impl_StopsOnAlarm laws_big spec_DrawIns spec_Latched k ((wrap64 (b0 + 1)), b1, b2, b3, b4, b5, b6, b7, b8, b9, b10, b11, b12, b13, b14, b15, b16, b17, b18, ())
                else
                 none
               else
                none
              else
               laws_FnAlarmStops_L8 impl_Latched impl_RunDevice impl_StopsOnAlarm laws_big spec_DrawIns spec_Latched k ((wrap64 (b0 + 1)), b1, b2, b3, b4, b5, b6, b7, b8, b9, b10, b11, b12, b13, b14, b15, b16, b17, b18, ())
             else
              none
            else
             none
           else
            laws_FnAlarmStops_L8 impl_Latched impl_RunDevice impl_StopsOnAlarm laws_big spec_DrawIns spec_Latched k ((wrap64 (b0 + 1)), b1, b2, b3, b4, b5, b6, b7, b8, b9, b10, b11, b12, b13, b14, b15, b16, b17, b18, ())
          else
           if (List.getD b18 (Int.toNat b0) (0, (0, 0))).2.1 = 0 then
            some false
           else
            if 0 < b0 then
             if 0 ≤ b0 then
              if b0 < ((List.length b1 : Nat) : Int) then
               if (List.getD b1 (Int.toNat b0) (0, ((⟨#[]⟩ : ByteArray), (⟨#[]⟩ : ByteArray)))).2.1 = (⟨#[]⟩ : ByteArray) then
                if 0 ≤ b0 then
                 if b0 < ((List.length b1 : Nat) : Int) then
                  if (List.getD b1 (Int.toNat b0) (0, ((⟨#[]⟩ : ByteArray), (⟨#[]⟩ : ByteArray)))).2.2 = (⟨#[]⟩ : ByteArray) then
                   if 0 ≤ (wrap64 (b0 - 1)) then
                    if (wrap64 (b0 - 1)) < ((List.length b18 : Nat) : Int) then
                     if (List.getD b18 (Int.toNat (wrap64 (b0 - 1))) (0, (0, 0))).2.1 = 0 then
                      laws_FnAlarmStops_L8 impl_Latched impl_RunDevice impl_StopsOnAlarm laws_big spec_DrawIns spec_Latched k ((wrap64 (b0 + 1)), b1, b2, b3, b4, b5, b6, b7, b8, b9, b10, b11, b12, b13, b14, b15, b16, b17, b18, ())
                     else
                      if (List.getD b18 (Int.toNat b0) (0, (0, 0))).2.1 = 0 then
                       some false
                      else
                       laws_FnAlarmStops_L8 impl_Latched impl_RunDevice impl_StopsOnAlarm laws_big spec_DrawIns spec_Latched k ((wrap64 (b0 + 1)), b1, b2, b3, b4, b5, b6, b7, b8, b9, b10, b11, b12, b13, b14, b15, b16, b17, b18, ())
                    else
                     none
                   else
                    none
                  else
                   laws_FnAlarmStops_L8 impl_Latched impl_RunDevice impl_StopsOnAlarm laws_big spec_DrawIns spec_Latched k ((wrap64 (b0 + 1)), b1, b2, b3, b4, b5, b6, b7, b8, b9, b10, b11, b12, b13, b14, b15, b16, b17, b18, ())
                 else
                  none
                else
                 none
               else
                laws_FnAlarmStops_L8 impl_Latched impl_RunDevice impl_StopsOnAlarm laws_big spec_DrawIns spec_Latched k ((wrap64 (b0 + 1)), b1, b2, b3, b4, b5, b6, b7, b8, b9, b10, b11, b12, b13, b14, b15, b16, b17, b18, ())
              else
               none
             else
              none
            else
             laws_FnAlarmStops_L8 impl_Latched impl_RunDevice impl_StopsOnAlarm laws_big spec_DrawIns spec_Latched k ((wrap64 (b0 + 1)), b1, b2, b3, b4, b5, b6, b7, b8, b9, b10, b11, b12, b13, b14, b15, b16, b17, b18, ())
         else
          none
        else
         none
       else
        if (List.getD b18 (Int.toNat b0) (0, (0, 0))).1 = 0 then
         if 0 ≤ b0 then
          if b0 < ((List.length b1 : Nat) : Int) then
           if (List.getD b1 (Int.toNat b0) (0, ((⟨#[]⟩ : ByteArray), (⟨#[]⟩ : ByteArray)))).1 = 0 then
            if 0 < b0 then
             if 0 ≤ b0 then
              if b0 < ((List.length b1 : Nat) : Int) then
               if (List.getD b1 (Int.toNat b0) (0, ((⟨#[]⟩ : ByteArray), (⟨#[]⟩ : ByteArray)))).2.1 = (⟨#[]⟩ : ByteArray) then
                if 0 ≤ b0 then
                 if b0 < ((List.length b1 : Nat) : Int) then
                  if (List.getD b1 (Int.toNat b0) (0, ((⟨#[]⟩ : ByteArray), (⟨#[]⟩ : ByteArray)))).2.2 = (⟨#[]⟩ : ByteArray) then
                   if 0 ≤ (wrap64 (b0 - 1)) then
                    if (wrap64 (b0 - 1)) < ((List.length b18 : Nat) : Int) then
                     if (List.getD b18 (Int.toNat (wrap64 (b0 - 1))) (0, (0, 0))).2.1 = 0 then
                      laws_FnAlarmStops_L8 impl_Latched impl_RunDevice impl_StopsOnAlarm laws_big spec_DrawIns spec_Latched k ((wrap64 (b0 + 1)), b1, b2, b3, b4, b5, b6, b7, b8, b9, b10, b11, b12, b13, b14, b15, b16, b17, b18, ())
                     else
                      if (List.getD b18 (Int.toNat b0) (0, (0, 0))).2.1 = 0 then
                       some false
                      else
                       laws_FnAlarmStops_L8 impl_Latched impl_RunDevice impl_StopsOnAlarm laws_big spec_DrawIns spec_Latched k ((wrap64 (b0 + 1)), b1, b2, b3, b4, b5, b6, b7, b8, b9, b10, b11, b12, b13, b14, b15, b16, b17, b18, ())
                    else
                     none
                   else
                    none
                  else
                   laws_FnAlarmStops_L8 impl_Latched impl_RunDevice impl_StopsOnAlarm laws_big spec_DrawIns spec_Latched k ((wrap64 (b0 + 1)), b1, b2, b3, b4, b5, b6, b7, b8, b9, b10, b11, b12, b13, b14, b15, b16, b17, b18, ())
                 else
                  none
                else
                 none
               else
                laws_FnAlarmStops_L8 impl_Latched impl_RunDevice impl_StopsOnAlarm laws_big spec_DrawIns spec_Latched k ((wrap64 (b0 + 1)), b1, b2, b3, b4, b5, b6, b7, b8, b9, b10, b11, b12, b13, b14, b15, b16, b17, b18, ())
              else
               none
             else
              none
            else
             laws_FnAlarmStops_L8 impl_Latched impl_RunDevice impl_StopsOnAlarm laws_big spec_DrawIns spec_Latched k ((wrap64 (b0 + 1)), b1, b2, b3, b4, b5, b6, b7, b8, b9, b10, b11, b12, b13, b14, b15, b16, b17, b18, ())
           else
            if (List.getD b18 (Int.toNat b0) (0, (0, 0))).2.1 = 0 then
             some false
            else
             if 0 < b0 then
              if 0 ≤ b0 then
               if b0 < ((List.length b1 : Nat) : Int) then
                if (List.getD b1 (Int.toNat b0) (0, ((⟨#[]⟩ : ByteArray), (⟨#[]⟩ : ByteArray)))).2.1 = (⟨#[]⟩ : ByteArray) then
                 if 0 ≤ b0 then
                  if b0 < ((List.length b1 : Nat) : Int) then
                   if (List.getD b1 (Int.toNat b0) (0, ((⟨#[]⟩ : ByteArray), (⟨#[]⟩ : ByteArray)))).2.2 = (⟨#[]⟩ : ByteArray) then
                    if 0 ≤ (wrap64 (b0 - 1)) then
                     if (wrap64 (b0 - 1)) < ((List.length b18 : Nat) : Int) then
                      if (List.getD b18 (Int.toNat (wrap64 (b0 - 1))) (0, (0, 0))).2.1 = 0 then
                       laws_FnAlarmStops_L8 impl_Latched impl_RunDevice impl_StopsOnAlarm laws_big spec_DrawIns spec_Latched k ((wrap64 (b0 + 1)), b1, b2, b3, b4, b5, b6, b7, b8, b9, b10, b11, b12, b13, b14, b15, b16, b17, b18, ())
                      else
                       if (List.getD b18 (Int.toNat b0) (0, (0, 0))).2.1 = 0 then
                        some false
                       else
                        laws_FnAlarmStops_L8 impl_Latched impl_RunDevice impl_StopsOnAlarm laws_big spec_DrawIns spec_Latched k ((wrap64 (b0 + 1)), b1, b2, b3, b4, b5, b6, b7, b8, b9, b10, b11, b12, b13, b14, b15, b16, b17, b18, ())
                     else
                      none
                    else
                     none
                   else
                    laws_FnAlarmStops_L8 impl_Latched impl_RunDevice impl_StopsOnAlarm laws_big spec_DrawIns spec_Latched k ((wrap64 (b0 + 1)), b1, b2, b3, b4, b5, b6, b7, b8, b9, b10, b11, b12, b13, b14, b15, b16, b17, b18, ())
                  else
                   none
                 else
                  none
                else
                 laws_FnAlarmStops_L8 impl_Latched impl_RunDevice impl_StopsOnAlarm laws_big spec_DrawIns spec_Latched k ((wrap64 (b0 + 1)), b1, b2, b3, b4, b5, b6, b7, b8, b9, b10, b11, b12, b13, b14, b15, b16, b17, b18, ())
               else
                none
              else
               none
             else
              laws_FnAlarmStops_L8 impl_Latched impl_RunDevice impl_StopsOnAlarm laws_big spec_DrawIns spec_Latched k ((wrap64 (b0 + 1)), b1, b2, b3, b4, b5, b6, b7, b8, b9, b10, b11, b12, b13, b14, b15, b16, b17, b18, ())
          else
           none
         else
          none
        else
         some false
      else
       none
     else
      none
    else
     (impl_StopsOnAlarm k b18).bind fun v0 =>
     if v0 = true then
      (impl_Latched k (b18, b1)).bind fun v1 =>
      if v1 = true then
       (spec_Latched k (b18, b1)).bind fun v2 =>
       some v2
      else
       some false
     else
      some false
def laws_FnAlarmStops_ (impl_Latched : Nat → ((List (Int × (Int × Int)))) × ((List (Int × (ByteArray × ByteArray)))) → Option (Bool)) (impl_RunDevice : Nat → ((List (Int × (ByteArray × ByteArray)))) → Option ((Int × Int × Int × Int × Int × Int × Int × Int × List Int × Int × Int × Bool × Int × Int × ByteArray × (List (Int × (Int × Int))) × Int) × Bool)) (impl_StopsOnAlarm : Nat → ((List (Int × (Int × Int)))) → Option (Bool)) (laws_big : Nat → List Int → Option (Bool)) (spec_DrawIns : Nat → List Int → Option (((List (Int × (ByteArray × ByteArray)))))) (spec_Latched : Nat → ((List (Int × (Int × Int)))) × ((List (Int × (ByteArray × ByteArray)))) → Option (Bool)) (k : Nat) : List Int → Option (Bool)
  | a0 =>
  (laws_big k a0).bind fun v0 =>
  if v0 = true then
   some true
  else
   (spec_DrawIns k a0).bind fun v1 =>
   (impl_RunDevice k v1).bind fun v2 =>
   if v2.2 = true then
    if ((List.length v2.1.2.2.2.2.2.2.2.2.2.2.2.2.2.2.2.1 : Nat) : Int) = ((List.length v1 : Nat) : Int) then
     laws_FnAlarmStops_L8 impl_Latched impl_RunDevice impl_StopsOnAlarm laws_big spec_DrawIns spec_Latched k (0, v1, v2.1.1, v2.1.2.1, v2.1.2.2.1, v2.1.2.2.2.1, v2.1.2.2.2.2.1, v2.1.2.2.2.2.2.1, v2.1.2.2.2.2.2.2.1, v2.1.2.2.2.2.2.2.2.1, v2.1.2.2.2.2.2.2.2.2.2.1, v2.1.2.2.2.2.2.2.2.2.2.2.1, v2.1.2.2.2.2.2.2.2.2.2.2.2.1, v2.1.2.2.2.2.2.2.2.2.2.2.2.2.1, v2.1.2.2.2.2.2.2.2.2.2.2.2.2.2.1, v2.1.2.2.2.2.2.2.2.2.2.2.2.2.2.2.1, v2.1.2.2.2.2.2.2.2.2.2.2.2.2.2.2.2.2, v2.1.2.2.2.2.2.2.2.2.1, v2.1.2.2.2.2.2.2.2.2.2.2.2.2.2.2.2.1, ())
    else
     some false
   else
    some false
noncomputable def g_laws_FnAlarmStops : List Int → Option (Bool) := evG (laws_FnAlarmStops_ (fun _ => g_impl_Latched) (fun _ => g_impl_RunDevice) (fun _ => g_impl_StopsOnAlarm) (fun _ => g_laws_big) (fun _ => g_spec_DrawIns) (fun _ => g_spec_Latched))
theorem e_laws_FnAlarmStops : ∀ x b, g_laws_FnAlarmStops x = some b → ∃ k, laws_FnAlarmStops_ (fun _ => g_impl_Latched) (fun _ => g_impl_RunDevice) (fun _ => g_impl_StopsOnAlarm) (fun _ => g_laws_big) (fun _ => g_spec_DrawIns) (fun _ => g_spec_Latched) k x = some b := evG_e _
end Go.Sx.T
