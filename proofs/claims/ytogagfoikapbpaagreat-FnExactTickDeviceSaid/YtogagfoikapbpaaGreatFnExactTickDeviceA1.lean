/- Functions of the program as functions of Lean, and that the program keeps to them. -/
import Derived.Test.YtogagfoikapbpaaGreatFnExactTickDeviceA0
set_option maxRecDepth 100000
set_option linter.unusedVariables false
set_option linter.unusedSimpArgs false
namespace Go.Proofs
end Go.Proofs
namespace Go.Sx.T
open Go Go.Sx Go.Proofs Go.RowKit
/- spec_l18Copy -/
def con_spec_l18Copy (f : Nat → (Int × Int × Int × Int × Int × Int × Int × Int × List Int × Int × Int × Bool × Int × Int × ByteArray × (List (Int × (Int × Int))) × Int) → Option ((Int × Int × Int × Int × Int × Int × Int × Int × List Int × Int × Int × Bool × Int × Int × ByteArray × (List (Int × (Int × Int))) × Int))) : Con := ⟨[.agg [.int .i64, .int .i64, .int .i64, .int .i64, .int .i64, .int .i64, .int .i64, .int .i64, .sl (.int .i64), .int .i64, .int .i64, .bool, .int .i64, .int .i64, .str, .sl (.pair (.int .i64) (.pair (.int .i64) (.int .i64))), .int .i64]], 1, [.v true [.int .i64, .int .i64, .int .i64, .int .i64, .int .i64, .int .i64, .int .i64, .int .i64, .own (.int .i64) 3, .int .i64, .int .i64, .bool, .int .i64, .int .i64, .str, .own (.pair (.int .i64) (.pair (.int .i64) (.int .i64))) 101, .int .i64]], f⟩
def spec_l18Copy_ (spec_l16Copy : Nat → (List Int × Int) → Option ((List Int × Int))) (k : Nat) : (Int × Int × Int × Int × Int × Int × Int × Int × List Int × Int × Int × Bool × Int × Int × ByteArray × (List (Int × (Int × Int))) × Int) → Option ((Int × Int × Int × Int × Int × Int × Int × Int × List Int × Int × Int × Bool × Int × Int × ByteArray × (List (Int × (Int × Int))) × Int))
  | (a0, a1, a2, a3, a4, a5, a6, a7, a8, a9, a10, a11, a12, a13, a14, a15, a16) =>
  (spec_l16Copy k (a8, a9)).bind fun v0 =>
  if (((List.length ([] : List (Int × (Int × Int))) + List.length a15 : Nat) : Int) * ((24 : Nat) : Int)) ≤ 140737488355328 then some (a0, (a1, (a2, (a3, (a4, (a5, (a6, (a7, (v0.1, (v0.2, (a10, (a11, (a12, (a13, (a14, ((([] : List (Int × (Int × Int))) ++ a15), a16)))))))))))))))) else none
noncomputable def g_spec_l18Copy : (Int × Int × Int × Int × Int × Int × Int × Int × List Int × Int × Int × Bool × Int × Int × ByteArray × (List (Int × (Int × Int))) × Int) → Option ((Int × Int × Int × Int × Int × Int × Int × Int × List Int × Int × Int × Bool × Int × Int × ByteArray × (List (Int × (Int × Int))) × Int)) := spec_l18Copy_ (fun _ => g_spec_l16Copy) 0
theorem e_spec_l18Copy : ∀ x b, g_spec_l18Copy x = some b → ∃ k, spec_l18Copy_ (fun _ => g_spec_l16Copy) k x = some b := fun x b h => ⟨0, h⟩
/- spec_TickDevice -/
def con_spec_TickDevice (f : Nat → (Int × Int × Int × Int × Int × Int × Int × Int × List Int × Int × Int × Bool × Int × Int × ByteArray × (List (Int × (Int × Int))) × Int) × (Int × ByteArray × ByteArray) → Option ((Int × Int × Int × Int × Int × Int × Int × Int × List Int × Int × Int × Bool × Int × Int × ByteArray × (List (Int × (Int × Int))) × Int))) : Con := ⟨[.agg [.int .i64, .int .i64, .int .i64, .int .i64, .int .i64, .int .i64, .int .i64, .int .i64, .sl (.int .i64), .int .i64, .int .i64, .bool, .int .i64, .int .i64, .str, .sl (.pair (.int .i64) (.pair (.int .i64) (.int .i64))), .int .i64], .agg [.int .i64, .str, .str]], 1, [.v true [.int .i64, .int .i64, .int .i64, .int .i64, .int .i64, .int .i64, .int .i64, .int .i64, .own (.int .i64) 3, .int .i64, .int .i64, .bool, .int .i64, .int .i64, .str, .own (.pair (.int .i64) (.pair (.int .i64) (.int .i64))) 101, .int .i64]], f⟩
def spec_TickDevice_L13 (spec_Allow : Nat → (List Int × Int) × Int → Option (Int)) (spec_DeviceOk : Nat → (Int × Int × Int × Int × Int × Int × Int × Int × List Int × Int × Int × Bool × Int × Int × ByteArray × (List (Int × (Int × Int))) × Int) → Option (Bool)) (spec_Feel : Nat → (List Int × Int) × Int × Bool → Option ((List Int × Int))) (spec_Give : Nat → (Int × Int × Int × Int × Int × Int × Int × Int) × Int → Option ((Int × Int × Int × Int × Int × Int × Int × Int))) (spec_InOk : Nat → (Int × ByteArray × ByteArray) → Option (Bool)) (spec_Pass : Nat → (List Int × Int) × Int → Option ((List Int × Int))) (spec_PressAll : Nat → (Int × Bool × Int × Int × ByteArray) × ByteArray → Option ((Int × Bool × Int × Int × ByteArray) × ((List (Int × (Int × (Int × Int))))))) (spec_ReadOrder : Nat → ByteArray → Option ((Int × Int × Int × Int) × Bool)) (spec_Take : Nat → (Int × Int × Int × Int × Int × Int × Int × Int) × (Int × Int × Int × Int) → Option ((Int × Int × Int × Int × Int × Int × Int × Int) × Bool)) (spec_Wants : Nat → (Int × Int × Int × Int × Int × Int × Int × Int) → Option (Int)) (spec_l18Copy : Nat → (Int × Int × Int × Int × Int × Int × Int × Int × List Int × Int × Int × Bool × Int × Int × ByteArray × (List (Int × (Int × Int))) × Int) → Option ((Int × Int × Int × Int × Int × Int × Int × Int × List Int × Int × Int × Bool × Int × Int × ByteArray × (List (Int × (Int × Int))) × Int))) : Nat → Bool × Int × List Int × (List (Int × (Int × Int))) × Int × Int × Int × Int × Int × Int × Int × Int × Int × Int × Bool × Int × Int × ByteArray × Int × Int × ByteArray × ByteArray × Int × Int × Int × Int × Int × Int × Int × Int × Int × Int × Bool × Int × Int × ByteArray × Int × Int × Int × Int × Int × Int × Int × Int × Int × Int × Int × Bool × Int × Int × ByteArray × Int × (List (Int × (Int × (Int × Int)))) × List Int × List Int × List Int × (List (Int × (Int × Int))) × Unit → Option ((Int × Int × Int × Int × Int × Int × Int × Int × List Int × Int × Int × Bool × Int × Int × ByteArray × (List (Int × (Int × Int))) × Int))
  | 0, _ => none
  | k + 1, (b0, b1, b2, b3, b4, b5, b6, b7, b8, b9, b10, b11, b12, b13, b14, b15, b16, b17, b18, b19, b20, b21, b22, b23, b24, b25, b26, b27, b28, b29, b30, b31, b32, b33, b34, b35, b36, b37, b38, b39, b40, b41, b42, b43, b44, b45, b46, b47, b48, b49, b50, b51, b52, b53, b54, b55, b56, ()) =>
    if b1 < ((List.length b52 : Nat) : Int) then
     if 0 ≤ b1 then
      if b1 < ((List.length b52 : Nat) : Int) then
       if (List.getD b52 (Int.toNat b1) (0, (0, (0, 0)))).1 = 5 then
        spec_TickDevice_L13 spec_Allow spec_DeviceOk spec_Feel spec_Give spec_InOk spec_Pass spec_PressAll spec_ReadOrder spec_Take spec_Wants spec_l18Copy k (true, (wrap64 (b1 + 1)), b2, b3, b4, b5, b6, b7, b8, b9, b10, b11, b12, b13, b14, b15, b16, b17, b18, b19, b20, b21, b22, b23, b24, b25, b26, b27, b28, b29, b30, b31, b32, b33, b34, b35, b36, b37, b38, b39, b40, b41, b42, b43, b44, b45, b46, b47, b48, b49, b50, b51, b52, b53, b54, b55, b56, ())
       else
        if 0 ≤ b1 then
         if b1 < ((List.length b52 : Nat) : Int) then (spec_Take k ((b37, (b38, (b39, (b40, (b41, (b42, (b43, b44))))))), (List.getD b52 (Int.toNat b1) (0, (0, (0, 0)))))).bind fun v0 =>
          if v0.2 = true then
           spec_TickDevice_L13 spec_Allow spec_DeviceOk spec_Feel spec_Give spec_InOk spec_Pass spec_PressAll spec_ReadOrder spec_Take spec_Wants spec_l18Copy k (b0, (wrap64 (b1 + 1)), b2, b3, b4, b5, b6, b7, b8, b9, b10, b11, b12, b13, b14, b15, b16, b17, b18, b19, b20, b21, b22, b23, b24, b25, b26, b27, b28, b29, b30, b31, b32, b33, b34, b35, b36, v0.1.1, v0.1.2.1, v0.1.2.2.1, v0.1.2.2.2.1, v0.1.2.2.2.2.1, v0.1.2.2.2.2.2.1, v0.1.2.2.2.2.2.2.1, v0.1.2.2.2.2.2.2.2, b45, b46, b47, b48, b49, b50, b51, b52, b53, b54, b55, b56, ())
          else
           spec_TickDevice_L13 spec_Allow spec_DeviceOk spec_Feel spec_Give spec_InOk spec_Pass spec_PressAll spec_ReadOrder spec_Take spec_Wants spec_l18Copy k (b0, (wrap64 (b1 + 1)), b2, b3, b4, b5, b6, b7, b8, b9, b10, b11, b12, b13, b14, b15, b16, b17, b18, b19, b20, b21, b22, b23, b24, b25, b26, b27, b28, b29, b30, b31, b32, b33, b34, b35, b36, v0.1.1, v0.1.2.1, v0.1.2.2.1, v0.1.2.2.2.1, v0.1.2.2.2.2.1, v0.1.2.2.2.2.2.1, v0.1.2.2.2.2.2.2.1, v0.1.2.2.2.2.2.2.2, b45, b46, b47, b48, b49, b50, (wrap64 (b51 + 1)), b52, b53, b54, b55, b56, ()) else none
        else
         none
      else
       none
     else
      none
    else
     (spec_Feel k ((b2, b12), (b19, b0))).bind fun v1 =>
     (spec_Wants k (b37, (b38, (b39, (b40, (b41, (b42, (b43, b44)))))))).bind fun v2 =>
     (spec_Allow k (v1, v2)).bind fun v3 =>
     if v1.2 = 0 then
      (spec_Give k ((b37, (b38, (b39, (b40, (b41, (b42, (b43, b44))))))), v3)).bind fun v4 =>
      (spec_Pass k (v1, v3)).bind fun v5 =>
      if (((List.length b56 + List.length [(v3, (v5.2, v4.1))] : Nat) : Int) * ((24 : Nat) : Int)) ≤ 140737488355328 then some (v4.1, (v4.2.1, (v4.2.2.1, (v4.2.2.2.1, (v4.2.2.2.2.1, (v4.2.2.2.2.2.1, (v4.2.2.2.2.2.2.1, (v4.2.2.2.2.2.2.2, (v5.1, (v5.2, (b46, (b47, (b48, (b49, (b50, ((b56 ++ [(v3, (v5.2, v4.1))]), b51)))))))))))))))) else none
     else
      (spec_Pass k (v1, v3)).bind fun v6 =>
      if (((List.length b56 + List.length [(v3, (v6.2, b37))] : Nat) : Int) * ((24 : Nat) : Int)) ≤ 140737488355328 then some (b37, (b38, (b39, (b40, (b41, (b42, (b43, (b44, (v6.1, (v6.2, (b46, (b47, (b48, (b49, (b50, ((b56 ++ [(v3, (v6.2, b37))]), b51)))))))))))))))) else none
def spec_TickDevice_ (spec_Allow : Nat → (List Int × Int) × Int → Option (Int)) (spec_DeviceOk : Nat → (Int × Int × Int × Int × Int × Int × Int × Int × List Int × Int × Int × Bool × Int × Int × ByteArray × (List (Int × (Int × Int))) × Int) → Option (Bool)) (spec_Feel : Nat → (List Int × Int) × Int × Bool → Option ((List Int × Int))) (spec_Give : Nat → (Int × Int × Int × Int × Int × Int × Int × Int) × Int → Option ((Int × Int × Int × Int × Int × Int × Int × Int))) (spec_InOk : Nat → (Int × ByteArray × ByteArray) → Option (Bool)) (spec_Pass : Nat → (List Int × Int) × Int → Option ((List Int × Int))) (spec_PressAll : Nat → (Int × Bool × Int × Int × ByteArray) × ByteArray → Option ((Int × Bool × Int × Int × ByteArray) × ((List (Int × (Int × (Int × Int))))))) (spec_ReadOrder : Nat → ByteArray → Option ((Int × Int × Int × Int) × Bool)) (spec_Take : Nat → (Int × Int × Int × Int × Int × Int × Int × Int) × (Int × Int × Int × Int) → Option ((Int × Int × Int × Int × Int × Int × Int × Int) × Bool)) (spec_Wants : Nat → (Int × Int × Int × Int × Int × Int × Int × Int) → Option (Int)) (spec_l18Copy : Nat → (Int × Int × Int × Int × Int × Int × Int × Int × List Int × Int × Int × Bool × Int × Int × ByteArray × (List (Int × (Int × Int))) × Int) → Option ((Int × Int × Int × Int × Int × Int × Int × Int × List Int × Int × Int × Bool × Int × Int × ByteArray × (List (Int × (Int × Int))) × Int))) (k : Nat) : (Int × Int × Int × Int × Int × Int × Int × Int × List Int × Int × Int × Bool × Int × Int × ByteArray × (List (Int × (Int × Int))) × Int) × (Int × ByteArray × ByteArray) → Option ((Int × Int × Int × Int × Int × Int × Int × Int × List Int × Int × Int × Bool × Int × Int × ByteArray × (List (Int × (Int × Int))) × Int))
  | ((a0, a1, a2, a3, a4, a5, a6, a7, a8, a9, a10, a11, a12, a13, a14, a15, a16), (a17, a18, a19)) =>
  (spec_l18Copy k (a0, (a1, (a2, (a3, (a4, (a5, (a6, (a7, (a8, (a9, (a10, (a11, (a12, (a13, (a14, (a15, a16))))))))))))))))).bind fun v0 =>
  (spec_DeviceOk k (a0, (a1, (a2, (a3, (a4, (a5, (a6, (a7, (a8, (a9, (a10, (a11, (a12, (a13, (a14, (a15, a16))))))))))))))))).bind fun v1 =>
  if v1 = true then
   (spec_InOk k (a17, (a18, a19))).bind fun v2 =>
   if v2 = true then
    if ((List.length a15 : Nat) : Int) = 200 then
     some v0
    else
     if 999999900 < a16 then
      some v0
     else
      (spec_PressAll k ((a10, (a11, (a12, (a13, a14)))), a18)).bind fun v3 =>
      if a19 = (⟨#[]⟩ : ByteArray) then
       spec_TickDevice_L13 spec_Allow spec_DeviceOk spec_Feel spec_Give spec_InOk spec_Pass spec_PressAll spec_ReadOrder spec_Take spec_Wants spec_l18Copy k (false, 0, a8, a15, a0, a1, a2, a3, a4, a5, a6, a7, a9, a10, a11, a12, a13, a14, a16, a17, a18, a19, 0, 0, 0, 0, 0, 0, 0, 0, 0, 0, false, 0, 0, (⟨#[]⟩ : ByteArray), 0, v0.1, v0.2.1, v0.2.2.1, v0.2.2.2.1, v0.2.2.2.2.1, v0.2.2.2.2.2.1, v0.2.2.2.2.2.2.1, v0.2.2.2.2.2.2.2.1, v0.2.2.2.2.2.2.2.2.2.1, v3.1.1, v3.1.2.1, v3.1.2.2.1, v3.1.2.2.2.1, v3.1.2.2.2.2, v0.2.2.2.2.2.2.2.2.2.2.2.2.2.2.2.2, v3.2, [], [], v0.2.2.2.2.2.2.2.2.1, v0.2.2.2.2.2.2.2.2.2.2.2.2.2.2.2.1, ())
      else
       (spec_ReadOrder k a19).bind fun v4 =>
       if v4.2 = true then
        if (((List.length v3.2 + List.length [v4.1] : Nat) : Int) * ((32 : Nat) : Int)) ≤ 140737488355328 then spec_TickDevice_L13 spec_Allow spec_DeviceOk spec_Feel spec_Give spec_InOk spec_Pass spec_PressAll spec_ReadOrder spec_Take spec_Wants spec_l18Copy k (false, 0, a8, a15, a0, a1, a2, a3, a4, a5, a6, a7, a9, a10, a11, a12, a13, a14, a16, a17, a18, a19, 0, 0, 0, 0, 0, 0, 0, 0, 0, 0, false, 0, 0, (⟨#[]⟩ : ByteArray), 0, v0.1, v0.2.1, v0.2.2.1, v0.2.2.2.1, v0.2.2.2.2.1, v0.2.2.2.2.2.1, v0.2.2.2.2.2.2.1, v0.2.2.2.2.2.2.2.1, v0.2.2.2.2.2.2.2.2.2.1, v3.1.1, v3.1.2.1, v3.1.2.2.1, v3.1.2.2.2.1, v3.1.2.2.2.2, v0.2.2.2.2.2.2.2.2.2.2.2.2.2.2.2.2, (v3.2 ++ [v4.1]), [], [], v0.2.2.2.2.2.2.2.2.1, v0.2.2.2.2.2.2.2.2.2.2.2.2.2.2.2.1, ()) else none
       else
        spec_TickDevice_L13 spec_Allow spec_DeviceOk spec_Feel spec_Give spec_InOk spec_Pass spec_PressAll spec_ReadOrder spec_Take spec_Wants spec_l18Copy k (false, 0, a8, a15, a0, a1, a2, a3, a4, a5, a6, a7, a9, a10, a11, a12, a13, a14, a16, a17, a18, a19, 0, 0, 0, 0, 0, 0, 0, 0, 0, 0, false, 0, 0, (⟨#[]⟩ : ByteArray), 0, v0.1, v0.2.1, v0.2.2.1, v0.2.2.2.1, v0.2.2.2.2.1, v0.2.2.2.2.2.1, v0.2.2.2.2.2.2.1, v0.2.2.2.2.2.2.2.1, v0.2.2.2.2.2.2.2.2.2.1, v3.1.1, v3.1.2.1, v3.1.2.2.1, v3.1.2.2.2.1, v3.1.2.2.2.2, (wrap64 (v0.2.2.2.2.2.2.2.2.2.2.2.2.2.2.2.2 + 1)), v3.2, [], [], v0.2.2.2.2.2.2.2.2.1, v0.2.2.2.2.2.2.2.2.2.2.2.2.2.2.2.1, ())
   else
    some v0
  else
   some v0
noncomputable def g_spec_TickDevice : (Int × Int × Int × Int × Int × Int × Int × Int × List Int × Int × Int × Bool × Int × Int × ByteArray × (List (Int × (Int × Int))) × Int) × (Int × ByteArray × ByteArray) → Option ((Int × Int × Int × Int × Int × Int × Int × Int × List Int × Int × Int × Bool × Int × Int × ByteArray × (List (Int × (Int × Int))) × Int)) := evG (spec_TickDevice_ (fun _ => g_spec_Allow) (fun _ => g_spec_DeviceOk) (fun _ => g_spec_Feel) (fun _ => g_spec_Give) (fun _ => g_spec_InOk) (fun _ => g_spec_Pass) (fun _ => g_spec_PressAll) (fun _ => g_spec_ReadOrder) (fun _ => g_spec_Take) (fun _ => g_spec_Wants) (fun _ => g_spec_l18Copy))
theorem e_spec_TickDevice : ∀ x b, g_spec_TickDevice x = some b → ∃ k, spec_TickDevice_ (fun _ => g_spec_Allow) (fun _ => g_spec_DeviceOk) (fun _ => g_spec_Feel) (fun _ => g_spec_Give) (fun _ => g_spec_InOk) (fun _ => g_spec_Pass) (fun _ => g_spec_PressAll) (fun _ => g_spec_ReadOrder) (fun _ => g_spec_Take) (fun _ => g_spec_Wants) (fun _ => g_spec_l18Copy) k x = some b := evG_e _
/- laws_szIn -/
def con_laws_szIn (f : Nat → (Int × ByteArray × ByteArray) × Int → Option (Int)) : Con := ⟨[.agg [.int .i64, .str, .str], .c (.int .i64)], 1, [.v false [.int .i64]], f⟩
def laws_szIn_ (k : Nat) : (Int × ByteArray × ByteArray) × Int → Option (Int)
  | ((a0, a1, a2), a3) =>
  if (wrap64 (a3 - ((ByteArray.size a1 : Nat) : Int))) < 0 then
   some (-1)
  else
   if (wrap64 ((wrap64 (a3 - ((ByteArray.size a1 : Nat) : Int))) - ((ByteArray.size a2 : Nat) : Int))) < 0 then
    some (-1)
   else
    some (wrap64 ((wrap64 (a3 - ((ByteArray.size a1 : Nat) : Int))) - ((ByteArray.size a2 : Nat) : Int)))
noncomputable def g_laws_szIn : (Int × ByteArray × ByteArray) × Int → Option (Int) := laws_szIn_  0
theorem e_laws_szIn : ∀ x b, g_laws_szIn x = some b → ∃ k, laws_szIn_  k x = some b := fun x b h => ⟨0, h⟩
/- laws_toTick -/
def con_laws_toTick (f : Nat → (Int × Int × Int) → Option ((Int × Int × Int))) : Con := ⟨[.agg [.int .i64, .int .i64, .int .i64]], 1, [.v true [.int .i64, .int .i64, .int .i64]], f⟩
def laws_toTick_ (k : Nat) : (Int × Int × Int) → Option ((Int × Int × Int))
  | (a0, a1, a2) =>
  some (a0, (a1, a2))
noncomputable def g_laws_toTick : (Int × Int × Int) → Option ((Int × Int × Int)) := laws_toTick_  0
theorem e_laws_toTick : ∀ x b, g_laws_toTick x = some b → ∃ k, laws_toTick_  k x = some b := fun x b h => ⟨0, h⟩
/- laws_toTickS -/
def con_laws_toTickS (f : Nat → ((List (Int × (Int × Int)))) → Option (((List (Int × (Int × Int)))))) : Con := ⟨[.c (.sl (.pair (.int .i64) (.pair (.int .i64) (.int .i64))))], 1, [.v false [.own (.pair (.int .i64) (.pair (.int .i64) (.int .i64))) 101]], f⟩
def laws_toTickS_L3 (laws_toTick : Nat → (Int × Int × Int) → Option ((Int × Int × Int))) : Nat → Int × (List (Int × (Int × Int))) × (List (Int × (Int × Int))) × Unit → Option (((List (Int × (Int × Int)))))
  | 0, _ => none
  | k + 1, (b0, b1, b2, ()) =>
    if b0 < ((List.length b1 : Nat) : Int) then
     if 0 ≤ b0 then
      if b0 < ((List.length b1 : Nat) : Int) then (laws_toTick k (List.getD b1 (Int.toNat b0) (0, (0, 0)))).bind fun v0 =>
       if 0 ≤ b0 then
        if b0 < ((List.length b2 : Nat) : Int) then laws_toTickS_L3 laws_toTick k ((wrap64 (b0 + 1)), b1, (List.set b2 (Int.toNat b0) v0), ()) else none
       else
        none else none
     else
      none
    else
     some b2
def laws_toTickS_ (laws_toTick : Nat → (Int × Int × Int) → Option ((Int × Int × Int))) (k : Nat) : ((List (Int × (Int × Int)))) → Option (((List (Int × (Int × Int)))))
  | a0 =>
  if ((List.length a0 : Nat) : Int) = ((List.length a0 : Nat) : Int) then
   if 0 ≤ ((List.length a0 : Nat) : Int) then
    if (((List.length a0 : Nat) : Int) * ((24 : Nat) : Int)) ≤ 140737488355328 then laws_toTickS_L3 laws_toTick k (0, a0, (List.replicate (Int.toNat ((List.length a0 : Nat) : Int)) (0, (0, 0))), ()) else none
   else
    none
  else
   none
noncomputable def g_laws_toTickS : ((List (Int × (Int × Int)))) → Option (((List (Int × (Int × Int))))) := evG (laws_toTickS_ (fun _ => g_laws_toTick))
theorem e_laws_toTickS : ∀ x b, g_laws_toTickS x = some b → ∃ k, laws_toTickS_ (fun _ => g_laws_toTick) k x = some b := evG_e _
/- laws_toMenu -/
def con_laws_toMenu (f : Nat → (Int × Bool × Int × Int × ByteArray) → Option ((Int × Bool × Int × Int × ByteArray))) : Con := ⟨[.agg [.int .i64, .bool, .int .i64, .int .i64, .str]], 1, [.v true [.int .i64, .bool, .int .i64, .int .i64, .str]], f⟩
def laws_toMenu_ (k : Nat) : (Int × Bool × Int × Int × ByteArray) → Option ((Int × Bool × Int × Int × ByteArray))
  | (a0, a1, a2, a3, a4) =>
  some (a0, (a1, (a2, (a3, a4))))
noncomputable def g_laws_toMenu : (Int × Bool × Int × Int × ByteArray) → Option ((Int × Bool × Int × Int × ByteArray)) := laws_toMenu_  0
theorem e_laws_toMenu : ∀ x b, g_laws_toMenu x = some b → ∃ k, laws_toMenu_  k x = some b := fun x b h => ⟨0, h⟩
/- laws_toIntS -/
def con_laws_toIntS (f : Nat → List Int → Option (List Int)) : Con := ⟨[.c (.sl (.int .i64))], 1, [.v false [.own (.int .i64) 3]], f⟩
def laws_toIntS_L3 : Nat → Int × List Int × List Int × Unit → Option (List Int)
  | 0, _ => none
  | k + 1, (b0, b1, b2, ()) =>
    if b0 < ((List.length b1 : Nat) : Int) then
     if 0 ≤ b0 then
      if b0 < ((List.length b1 : Nat) : Int) then
       if 0 ≤ b0 then
        if b0 < ((List.length b2 : Nat) : Int) then laws_toIntS_L3 k ((wrap64 (b0 + 1)), b1, (List.set b2 (Int.toNat b0) (List.getD b1 (Int.toNat b0) 0)), ()) else none
       else
        none
      else
       none
     else
      none
    else
     some b2
def laws_toIntS_ (k : Nat) : List Int → Option (List Int)
  | a0 =>
  if ((List.length a0 : Nat) : Int) = ((List.length a0 : Nat) : Int) then
   if 0 ≤ ((List.length a0 : Nat) : Int) then
    if (((List.length a0 : Nat) : Int) * ((8 : Nat) : Int)) ≤ 140737488355328 then laws_toIntS_L3 k (0, a0, (List.replicate (Int.toNat ((List.length a0 : Nat) : Int)) 0), ()) else none
   else
    none
  else
   none
noncomputable def g_laws_toIntS : List Int → Option (List Int) := evG (laws_toIntS_ )
theorem e_laws_toIntS : ∀ x b, g_laws_toIntS x = some b → ∃ k, laws_toIntS_  k x = some b := evG_e _
/- laws_toGuard -/
def con_laws_toGuard (f : Nat → (List Int × Int) → Option ((List Int × Int))) : Con := ⟨[.agg [.sl (.int .i64), .int .i64]], 1, [.v true [.own (.int .i64) 3, .int .i64]], f⟩
def laws_toGuard_ (laws_toIntS : Nat → List Int → Option (List Int)) (k : Nat) : (List Int × Int) → Option ((List Int × Int))
  | (a0, a1) =>
  (laws_toIntS k a0).bind fun v0 =>
  some (v0, a1)
noncomputable def g_laws_toGuard : (List Int × Int) → Option ((List Int × Int)) := laws_toGuard_ (fun _ => g_laws_toIntS) 0
theorem e_laws_toGuard : ∀ x b, g_laws_toGuard x = some b → ∃ k, laws_toGuard_ (fun _ => g_laws_toIntS) k x = some b := fun x b h => ⟨0, h⟩
/- laws_toRate -/
def con_laws_toRate (f : Nat → (Int × Int × Int) → Option ((Int × Int × Int))) : Con := ⟨[.agg [.int .i64, .int .i64, .int .i64]], 1, [.v true [.int .i64, .int .i64, .int .i64]], f⟩
def laws_toRate_ (k : Nat) : (Int × Int × Int) → Option ((Int × Int × Int))
  | (a0, a1, a2) =>
  some (a0, (a1, a2))
noncomputable def g_laws_toRate : (Int × Int × Int) → Option ((Int × Int × Int)) := laws_toRate_  0
theorem e_laws_toRate : ∀ x b, g_laws_toRate x = some b → ∃ k, laws_toRate_  k x = some b := fun x b h => ⟨0, h⟩
/- laws_toPump -/
def con_laws_toPump (f : Nat → (Int × Int × Int × Int × Int × Int × Int × Int) → Option ((Int × Int × Int × Int × Int × Int × Int × Int))) : Con := ⟨[.agg [.int .i64, .int .i64, .int .i64, .int .i64, .int .i64, .int .i64, .int .i64, .int .i64]], 1, [.v true [.int .i64, .int .i64, .int .i64, .int .i64, .int .i64, .int .i64, .int .i64, .int .i64]], f⟩
def laws_toPump_ (laws_toRate : Nat → (Int × Int × Int) → Option ((Int × Int × Int))) (k : Nat) : (Int × Int × Int × Int × Int × Int × Int × Int) → Option ((Int × Int × Int × Int × Int × Int × Int × Int))
  | (a0, a1, a2, a3, a4, a5, a6, a7) =>
  (laws_toRate k (a1, (a2, a3))).bind fun v0 =>
  some (a0, (v0.1, (v0.2.1, (v0.2.2, (a4, (a5, (a6, a7)))))))
noncomputable def g_laws_toPump : (Int × Int × Int × Int × Int × Int × Int × Int) → Option ((Int × Int × Int × Int × Int × Int × Int × Int)) := laws_toPump_ (fun _ => g_laws_toRate) 0
theorem e_laws_toPump : ∀ x b, g_laws_toPump x = some b → ∃ k, laws_toPump_ (fun _ => g_laws_toRate) k x = some b := fun x b h => ⟨0, h⟩
/- laws_toDevice -/
def con_laws_toDevice (f : Nat → (Int × Int × Int × Int × Int × Int × Int × Int × List Int × Int × Int × Bool × Int × Int × ByteArray × (List (Int × (Int × Int))) × Int) → Option ((Int × Int × Int × Int × Int × Int × Int × Int × List Int × Int × Int × Bool × Int × Int × ByteArray × (List (Int × (Int × Int))) × Int))) : Con := ⟨[.agg [.int .i64, .int .i64, .int .i64, .int .i64, .int .i64, .int .i64, .int .i64, .int .i64, .sl (.int .i64), .int .i64, .int .i64, .bool, .int .i64, .int .i64, .str, .sl (.pair (.int .i64) (.pair (.int .i64) (.int .i64))), .int .i64]], 1, [.v true [.int .i64, .int .i64, .int .i64, .int .i64, .int .i64, .int .i64, .int .i64, .int .i64, .own (.int .i64) 3, .int .i64, .int .i64, .bool, .int .i64, .int .i64, .str, .own (.pair (.int .i64) (.pair (.int .i64) (.int .i64))) 101, .int .i64]], f⟩
def laws_toDevice_ (laws_toGuard : Nat → (List Int × Int) → Option ((List Int × Int))) (laws_toMenu : Nat → (Int × Bool × Int × Int × ByteArray) → Option ((Int × Bool × Int × Int × ByteArray))) (laws_toPump : Nat → (Int × Int × Int × Int × Int × Int × Int × Int) → Option ((Int × Int × Int × Int × Int × Int × Int × Int))) (laws_toTickS : Nat → ((List (Int × (Int × Int)))) → Option (((List (Int × (Int × Int)))))) (k : Nat) : (Int × Int × Int × Int × Int × Int × Int × Int × List Int × Int × Int × Bool × Int × Int × ByteArray × (List (Int × (Int × Int))) × Int) → Option ((Int × Int × Int × Int × Int × Int × Int × Int × List Int × Int × Int × Bool × Int × Int × ByteArray × (List (Int × (Int × Int))) × Int))
  | (a0, a1, a2, a3, a4, a5, a6, a7, a8, a9, a10, a11, a12, a13, a14, a15, a16) =>
  (laws_toPump k (a0, (a1, (a2, (a3, (a4, (a5, (a6, a7)))))))).bind fun v0 =>
  (laws_toGuard k (a8, a9)).bind fun v1 =>
  (laws_toMenu k (a10, (a11, (a12, (a13, a14))))).bind fun v2 =>
  (laws_toTickS k a15).bind fun v3 =>
  some (v0.1, (v0.2.1, (v0.2.2.1, (v0.2.2.2.1, (v0.2.2.2.2.1, (v0.2.2.2.2.2.1, (v0.2.2.2.2.2.2.1, (v0.2.2.2.2.2.2.2, (v1.1, (v1.2, (v2.1, (v2.2.1, (v2.2.2.1, (v2.2.2.2.1, (v2.2.2.2.2, (v3, a16))))))))))))))))
noncomputable def g_laws_toDevice : (Int × Int × Int × Int × Int × Int × Int × Int × List Int × Int × Int × Bool × Int × Int × ByteArray × (List (Int × (Int × Int))) × Int) → Option ((Int × Int × Int × Int × Int × Int × Int × Int × List Int × Int × Int × Bool × Int × Int × ByteArray × (List (Int × (Int × Int))) × Int)) := laws_toDevice_ (fun _ => g_laws_toGuard) (fun _ => g_laws_toMenu) (fun _ => g_laws_toPump) (fun _ => g_laws_toTickS) 0
theorem e_laws_toDevice : ∀ x b, g_laws_toDevice x = some b → ∃ k, laws_toDevice_ (fun _ => g_laws_toGuard) (fun _ => g_laws_toMenu) (fun _ => g_laws_toPump) (fun _ => g_laws_toTickS) k x = some b := fun x b h => ⟨0, h⟩
/- laws_szTickS -/
def con_laws_szTickS (f : Nat → ((List (Int × (Int × Int)))) × Int → Option (Int)) : Con := ⟨[.c (.sl (.pair (.int .i64) (.pair (.int .i64) (.int .i64)))), .c (.int .i64)], 1, [.v false [.int .i64]], f⟩
def laws_szTickS_ (k : Nat) : ((List (Int × (Int × Int)))) × Int → Option (Int)
  | (a0, a1) =>
  if (wrap64 (a1 - ((List.length a0 : Nat) : Int))) < 0 then
   some (-1)
  else
   some (wrap64 (a1 - ((List.length a0 : Nat) : Int)))
noncomputable def g_laws_szTickS : ((List (Int × (Int × Int)))) × Int → Option (Int) := laws_szTickS_  0
theorem e_laws_szTickS : ∀ x b, g_laws_szTickS x = some b → ∃ k, laws_szTickS_  k x = some b := fun x b h => ⟨0, h⟩
/- laws_szMenu -/
def con_laws_szMenu (f : Nat → (Int × Bool × Int × Int × ByteArray) × Int → Option (Int)) : Con := ⟨[.agg [.int .i64, .bool, .int .i64, .int .i64, .str], .c (.int .i64)], 1, [.v false [.int .i64]], f⟩
def laws_szMenu_ (k : Nat) : (Int × Bool × Int × Int × ByteArray) × Int → Option (Int)
  | ((a0, a1, a2, a3, a4), a5) =>
  if (wrap64 (a5 - ((ByteArray.size a4 : Nat) : Int))) < 0 then
   some (-1)
  else
   some (wrap64 (a5 - ((ByteArray.size a4 : Nat) : Int)))
noncomputable def g_laws_szMenu : (Int × Bool × Int × Int × ByteArray) × Int → Option (Int) := laws_szMenu_  0
theorem e_laws_szMenu : ∀ x b, g_laws_szMenu x = some b → ∃ k, laws_szMenu_  k x = some b := fun x b h => ⟨0, h⟩
/- laws_szIntS -/
def con_laws_szIntS (f : Nat → List Int × Int → Option (Int)) : Con := ⟨[.c (.sl (.int .i64)), .c (.int .i64)], 1, [.v false [.int .i64]], f⟩
def laws_szIntS_ (k : Nat) : List Int × Int → Option (Int)
  | (a0, a1) =>
  if (wrap64 (a1 - ((List.length a0 : Nat) : Int))) < 0 then
   some (-1)
  else
   some (wrap64 (a1 - ((List.length a0 : Nat) : Int)))
noncomputable def g_laws_szIntS : List Int × Int → Option (Int) := laws_szIntS_  0
theorem e_laws_szIntS : ∀ x b, g_laws_szIntS x = some b → ∃ k, laws_szIntS_  k x = some b := fun x b h => ⟨0, h⟩
/- laws_szGuard -/
def con_laws_szGuard (f : Nat → (List Int × Int) × Int → Option (Int)) : Con := ⟨[.agg [.sl (.int .i64), .int .i64], .c (.int .i64)], 1, [.v false [.int .i64]], f⟩
def laws_szGuard_ (laws_szIntS : Nat → List Int × Int → Option (Int)) (k : Nat) : (List Int × Int) × Int → Option (Int)
  | ((a0, a1), a2) =>
  (laws_szIntS k (a0, a2)).bind fun v0 =>
  if v0 < 0 then
   some (-1)
  else
   some v0
noncomputable def g_laws_szGuard : (List Int × Int) × Int → Option (Int) := laws_szGuard_ (fun _ => g_laws_szIntS) 0
theorem e_laws_szGuard : ∀ x b, g_laws_szGuard x = some b → ∃ k, laws_szGuard_ (fun _ => g_laws_szIntS) k x = some b := fun x b h => ⟨0, h⟩
/- laws_szDevice -/
def con_laws_szDevice (f : Nat → (Int × Int × Int × Int × Int × Int × Int × Int × List Int × Int × Int × Bool × Int × Int × ByteArray × (List (Int × (Int × Int))) × Int) × Int → Option (Int)) : Con := ⟨[.agg [.int .i64, .int .i64, .int .i64, .int .i64, .int .i64, .int .i64, .int .i64, .int .i64, .sl (.int .i64), .int .i64, .int .i64, .bool, .int .i64, .int .i64, .str, .sl (.pair (.int .i64) (.pair (.int .i64) (.int .i64))), .int .i64], .c (.int .i64)], 1, [.v false [.int .i64]], f⟩
def laws_szDevice_ (laws_szGuard : Nat → (List Int × Int) × Int → Option (Int)) (laws_szMenu : Nat → (Int × Bool × Int × Int × ByteArray) × Int → Option (Int)) (laws_szTickS : Nat → ((List (Int × (Int × Int)))) × Int → Option (Int)) (k : Nat) : (Int × Int × Int × Int × Int × Int × Int × Int × List Int × Int × Int × Bool × Int × Int × ByteArray × (List (Int × (Int × Int))) × Int) × Int → Option (Int)
  | ((a0, a1, a2, a3, a4, a5, a6, a7, a8, a9, a10, a11, a12, a13, a14, a15, a16), a17) =>
  (laws_szGuard k ((a8, a9), a17)).bind fun v0 =>
  if v0 < 0 then
   some (-1)
  else
   (laws_szMenu k ((a10, (a11, (a12, (a13, a14)))), v0)).bind fun v1 =>
   if v1 < 0 then
    some (-1)
   else
    (laws_szTickS k (a15, v1)).bind fun v2 =>
    if v2 < 0 then
     some (-1)
    else
     some v2
noncomputable def g_laws_szDevice : (Int × Int × Int × Int × Int × Int × Int × Int × List Int × Int × Int × Bool × Int × Int × ByteArray × (List (Int × (Int × Int))) × Int) × Int → Option (Int) := laws_szDevice_ (fun _ => g_laws_szGuard) (fun _ => g_laws_szMenu) (fun _ => g_laws_szTickS) 0
theorem e_laws_szDevice : ∀ x b, g_laws_szDevice x = some b → ∃ k, laws_szDevice_ (fun _ => g_laws_szGuard) (fun _ => g_laws_szMenu) (fun _ => g_laws_szTickS) k x = some b := fun x b h => ⟨0, h⟩
/- laws_FnExactTickDevice -/
def con_laws_FnExactTickDevice (f : Nat → (Int × Int × Int × Int × Int × Int × Int × Int × List Int × Int × Int × Bool × Int × Int × ByteArray × (List (Int × (Int × Int))) × Int) × (Int × ByteArray × ByteArray) → Option (Bool)) : Con := ⟨[.agg [.int .i64, .int .i64, .int .i64, .int .i64, .int .i64, .int .i64, .int .i64, .int .i64, .sl (.int .i64), .int .i64, .int .i64, .bool, .int .i64, .int .i64, .str, .sl (.pair (.int .i64) (.pair (.int .i64) (.int .i64))), .int .i64], .agg [.int .i64, .str, .str]], 1, [.v false [.bool]], f⟩
def laws_FnExactTickDevice_ (impl_TickDevice : Nat → (Int × Int × Int × Int × Int × Int × Int × Int × List Int × Int × Int × Bool × Int × Int × ByteArray × (List (Int × (Int × Int))) × Int) × (Int × ByteArray × ByteArray) → Option ((Int × Int × Int × Int × Int × Int × Int × Int × List Int × Int × Int × Bool × Int × Int × ByteArray × (List (Int × (Int × Int))) × Int))) (laws_eqDevice : Nat → (Int × Int × Int × Int × Int × Int × Int × Int × List Int × Int × Int × Bool × Int × Int × ByteArray × (List (Int × (Int × Int))) × Int) × (Int × Int × Int × Int × Int × Int × Int × Int × List Int × Int × Int × Bool × Int × Int × ByteArray × (List (Int × (Int × Int))) × Int) → Option (Bool)) (laws_heldDevice : Nat → (Int × Int × Int × Int × Int × Int × Int × Int × List Int × Int × Int × Bool × Int × Int × ByteArray × (List (Int × (Int × Int))) × Int) × Int → Option (Int)) (laws_markDevice : Nat → (Int × Int × Int × Int × Int × Int × Int × Int × List Int × Int × Int × Bool × Int × Int × ByteArray × (List (Int × (Int × Int))) × Int) × Int → Option (Int × List Int × (List (Int × (Int × Int))))) (laws_szDevice : Nat → (Int × Int × Int × Int × Int × Int × Int × Int × List Int × Int × Int × Bool × Int × Int × ByteArray × (List (Int × (Int × Int))) × Int) × Int → Option (Int)) (laws_szIn : Nat → (Int × ByteArray × ByteArray) × Int → Option (Int)) (laws_toDevice : Nat → (Int × Int × Int × Int × Int × Int × Int × Int × List Int × Int × Int × Bool × Int × Int × ByteArray × (List (Int × (Int × Int))) × Int) → Option ((Int × Int × Int × Int × Int × Int × Int × Int × List Int × Int × Int × Bool × Int × Int × ByteArray × (List (Int × (Int × Int))) × Int))) (laws_toIn : Nat → (Int × ByteArray × ByteArray) → Option ((Int × ByteArray × ByteArray))) (spec_TickDevice : Nat → (Int × Int × Int × Int × Int × Int × Int × Int × List Int × Int × Int × Bool × Int × Int × ByteArray × (List (Int × (Int × Int))) × Int) × (Int × ByteArray × ByteArray) → Option ((Int × Int × Int × Int × Int × Int × Int × Int × List Int × Int × Int × Bool × Int × Int × ByteArray × (List (Int × (Int × Int))) × Int))) (k : Nat) : (Int × Int × Int × Int × Int × Int × Int × Int × List Int × Int × Int × Bool × Int × Int × ByteArray × (List (Int × (Int × Int))) × Int) × (Int × ByteArray × ByteArray) → Option (Bool)
  | ((a0, a1, a2, a3, a4, a5, a6, a7, a8, a9, a10, a11, a12, a13, a14, a15, a16), (a17, a18, a19)) =>
  (laws_szDevice k ((a0, (a1, (a2, (a3, (a4, (a5, (a6, (a7, (a8, (a9, (a10, (a11, (a12, (a13, (a14, (a15, a16)))))))))))))))), 1048576)).bind fun v0 =>
  if v0 < 0 then
   some true
  else
   (laws_szIn k ((a17, (a18, a19)), v0)).bind fun v1 =>
   if v1 < 0 then
    some true
   else
    (laws_toDevice k (a0, (a1, (a2, (a3, (a4, (a5, (a6, (a7, (a8, (a9, (a10, (a11, (a12, (a13, (a14, (a15, a16))))))))))))))))).bind fun v2 =>
    (laws_toIn k (a17, (a18, a19))).bind fun v3 =>
    (spec_TickDevice k (v2, v3)).bind fun v4 =>
    (laws_toDevice k (a0, (a1, (a2, (a3, (a4, (a5, (a6, (a7, (a8, (a9, (a10, (a11, (a12, (a13, (a14, (a15, a16))))))))))))))))).bind fun v5 =>
    (laws_toIn k (a17, (a18, a19))).bind fun v6 =>
    (impl_TickDevice k (v5, v6)).bind fun v7 =>
    (laws_eqDevice k (v7, v4)).bind fun v8 =>
    if v8 = true then
     (laws_toDevice k (a0, (a1, (a2, (a3, (a4, (a5, (a6, (a7, (a8, (a9, (a10, (a11, (a12, (a13, (a14, (a15, a16))))))))))))))))).bind fun v9 =>
     (laws_eqDevice k (v5, v9)).bind fun v10 =>
     if v10 = true then
      (laws_markDevice k (v5, 1)).bind fun v11 =>
      if v11.1 < 0 then
       some false
      else
       (laws_eqDevice k (v7, v4)).bind fun v12 =>
       if v12 = true then
        (laws_markDevice k (v7, 1)).bind fun v13 =>
        (laws_heldDevice k ((v7.1, (v7.2.1, (v7.2.2.1, (v7.2.2.2.1, (v7.2.2.2.2.1, (v7.2.2.2.2.2.1, (v7.2.2.2.2.2.2.1, (v7.2.2.2.2.2.2.2.1, (v13.2.1, (v7.2.2.2.2.2.2.2.2.2.1, (v7.2.2.2.2.2.2.2.2.2.2.1, (v7.2.2.2.2.2.2.2.2.2.2.2.1, (v7.2.2.2.2.2.2.2.2.2.2.2.2.1, (v7.2.2.2.2.2.2.2.2.2.2.2.2.2.1, (v7.2.2.2.2.2.2.2.2.2.2.2.2.2.2.1, (v13.2.2, v7.2.2.2.2.2.2.2.2.2.2.2.2.2.2.2.2)))))))))))))))), 1)).bind fun v14 =>
        if v14 < 0 then
         some false
        else
         if v14 = v13.1 then
          (laws_toDevice k (a0, (a1, (a2, (a3, (a4, (a5, (a6, (a7, (a8, (a9, (a10, (a11, (a12, (a13, (a14, (a15, a16))))))))))))))))).bind fun v15 =>
          (laws_toIn k (a17, (a18, a19))).bind fun v16 =>
          (impl_TickDevice k (v15, v16)).bind fun v17 =>
          (laws_eqDevice k (v17, v4)).bind fun v18 =>
          if v18 = true then
           (laws_heldDevice k ((v7.1, (v7.2.1, (v7.2.2.1, (v7.2.2.2.1, (v7.2.2.2.2.1, (v7.2.2.2.2.2.1, (v7.2.2.2.2.2.2.1, (v7.2.2.2.2.2.2.2.1, (v13.2.1, (v7.2.2.2.2.2.2.2.2.2.1, (v7.2.2.2.2.2.2.2.2.2.2.1, (v7.2.2.2.2.2.2.2.2.2.2.2.1, (v7.2.2.2.2.2.2.2.2.2.2.2.2.1, (v7.2.2.2.2.2.2.2.2.2.2.2.2.2.1, (v7.2.2.2.2.2.2.2.2.2.2.2.2.2.2.1, (v13.2.2, v7.2.2.2.2.2.2.2.2.2.2.2.2.2.2.2.2)))))))))))))))), 1)).bind fun v19 =>
           if v19 < 0 then
            some false
           else
            if v19 = v13.1 then
             some true
            else
             some false
          else
           some false
         else
          some false
       else
        some false
     else
      some false
    else
     some false
noncomputable def g_laws_FnExactTickDevice : (Int × Int × Int × Int × Int × Int × Int × Int × List Int × Int × Int × Bool × Int × Int × ByteArray × (List (Int × (Int × Int))) × Int) × (Int × ByteArray × ByteArray) → Option (Bool) := laws_FnExactTickDevice_ (fun _ => g_impl_TickDevice) (fun _ => g_laws_eqDevice) (fun _ => g_laws_heldDevice) (fun _ => g_laws_markDevice) (fun _ => g_laws_szDevice) (fun _ => g_laws_szIn) (fun _ => g_laws_toDevice) (fun _ => g_laws_toIn) (fun _ => g_spec_TickDevice) 0
theorem e_laws_FnExactTickDevice : ∀ x b, g_laws_FnExactTickDevice x = some b → ∃ k, laws_FnExactTickDevice_ (fun _ => g_impl_TickDevice) (fun _ => g_laws_eqDevice) (fun _ => g_laws_heldDevice) (fun _ => g_laws_markDevice) (fun _ => g_laws_szDevice) (fun _ => g_laws_szIn) (fun _ => g_laws_toDevice) (fun _ => g_laws_toIn) (fun _ => g_spec_TickDevice) k x = some b := fun x b h => ⟨0, h⟩
end Go.Sx.T
