/- Functions of the program as functions of Lean, and that the program keeps to them. -/
import Derived.Test.YtkcfdkfdmglamaaFnApartOfA2
set_option maxRecDepth 100000
set_option linter.unusedVariables false
set_option linter.unusedSimpArgs false
namespace Go.Proofs
end Go.Proofs
namespace Go.Sx.T
open Go Go.Sx Go.Proofs Go.RowKit
/- laws_FnApartOf -/
def con_laws_FnApartOf (f : Nat → List Int → Option (Bool)) : Con := ⟨[.c (.sl (.int .u8))], 1, [.v false [.bool]], f⟩
def laws_FnApartOf_L7 (impl_Apart : Nat → ((List (Int × Int)) × (List (Int × Int)) × (List (Int × (Int × (Int × (Int × Int))))) × (List (Int × (Int × Int))) × List ByteArray × List Int × (List (Int × ((Int × (List Int)) × (Int × (Int × Int))))) × (List (List (Int × Int))) × List Int × Int × Bool × (List (Int × (Int × (Int × (Int × Int)))))) × ((List (Int × Int)) × (List (Int × Int)) × (List (Int × (Int × (Int × (Int × Int))))) × (List (Int × (Int × Int))) × List ByteArray × List Int × (List (Int × ((Int × (List Int)) × (Int × (Int × Int))))) × (List (List (Int × Int))) × List Int × Int × Bool × (List (Int × (Int × (Int × (Int × Int)))))) × Int → Option (Bool)) (laws_big : Nat → List Int → Option (Bool)) (spec_Apart : Nat → ((List (Int × Int)) × (List (Int × Int)) × (List (Int × (Int × (Int × (Int × Int))))) × (List (Int × (Int × Int))) × List ByteArray × List Int × (List (Int × ((Int × (List Int)) × (Int × (Int × Int))))) × (List (List (Int × Int))) × List Int × Int × Bool × (List (Int × (Int × (Int × (Int × Int)))))) × ((List (Int × Int)) × (List (Int × Int)) × (List (Int × (Int × (Int × (Int × Int))))) × (List (Int × (Int × Int))) × List ByteArray × List Int × (List (Int × ((Int × (List Int)) × (Int × (Int × Int))))) × (List (List (Int × Int))) × List Int × Int × Bool × (List (Int × (Int × (Int × (Int × Int)))))) × Int → Option (Bool)) (spec_DrawKernel : Nat → List Int → Option (((List (Int × Int)) × (List (Int × Int)) × (List (Int × (Int × (Int × (Int × Int))))) × (List (Int × (Int × Int))) × List ByteArray × List Int × (List (Int × ((Int × (List Int)) × (Int × (Int × Int))))) × (List (List (Int × Int))) × List Int × Int × Bool × (List (Int × (Int × (Int × (Int × Int)))))) × List Int)) (spec_TurnOf : Nat → ((List (Int × Int)) × (List (Int × Int)) × (List (Int × (Int × (Int × (Int × Int))))) × (List (Int × (Int × Int))) × List ByteArray × List Int × (List (Int × ((Int × (List Int)) × (Int × (Int × Int))))) × (List (List (Int × Int))) × List Int × Int × Bool × (List (Int × (Int × (Int × (Int × Int)))))) × List Int → Option (((List (Int × Int)) × (List (Int × Int)) × (List (Int × (Int × (Int × (Int × Int))))) × (List (Int × (Int × Int))) × List ByteArray × List Int × (List (Int × ((Int × (List Int)) × (Int × (Int × Int))))) × (List (List (Int × Int))) × List Int × Int × Bool × (List (Int × (Int × (Int × (Int × Int)))))))) (spec_WindowAt : Nat → ((List (Int × Int))) × Int → Option ((Int × Int))) : Nat → Int × Int × Bool × Int × Bool × Int × Int × (List (Int × Int)) × (List (Int × Int)) × (List (Int × (Int × (Int × (Int × Int))))) × (List (Int × (Int × Int))) × List ByteArray × List Int × (List (Int × ((Int × (List Int)) × (Int × (Int × Int))))) × (List (List (Int × Int))) × List Int × (List (Int × (Int × (Int × (Int × Int))))) × (List (Int × Int)) × (List (Int × Int)) × (List (Int × (Int × (Int × (Int × Int))))) × (List (Int × (Int × Int))) × List ByteArray × List Int × (List (Int × ((Int × (List Int)) × (Int × (Int × Int))))) × (List (List (Int × Int))) × List Int × (List (Int × (Int × (Int × (Int × Int))))) × Unit → Option (Bool)
  | 0, _ => none
  | k + 1, (b0, b1, b2, b3, b4, b5, b6, b7, b8, b9, b10, b11, b12, b13, b14, b15, b16, b17, b18, b19, b20, b21, b22, b23, b24, b25, b26, ()) =>
    if b0 ≤ ((List.length b13 : Nat) : Int) then
     (impl_Apart k ((b7, (b8, (b9, (b10, (b11, (b12, (b13, (b14, (b15, (b1, (b2, b16))))))))))), ((b7, (b8, (b9, (b10, (b11, (b12, (b13, (b14, (b15, (b1, (b2, b16))))))))))), b0))).bind fun v0 =>
     if v0 = true then
      (impl_Apart k ((b7, (b8, (b9, (b10, (b11, (b12, (b13, (b14, (b15, (b1, (b2, b16))))))))))), ((b17, (b18, (b19, (b20, (b21, (b22, (b23, (b24, (b25, (b3, (b4, b26))))))))))), b0))).bind fun v1 =>
      (spec_Apart k ((b7, (b8, (b9, (b10, (b11, (b12, (b13, (b14, (b15, (b1, (b2, b16))))))))))), ((b17, (b18, (b19, (b20, (b21, (b22, (b23, (b24, (b25, (b3, (b4, b26))))))))))), b0))).bind fun v2 =>
      if (v1 == v2) = true then
       if b0 = b5 then
        laws_FnApartOf_L7 impl_Apart laws_big spec_Apart spec_DrawKernel spec_TurnOf spec_WindowAt k ((wrap64 (b0 + 1)), b1, b2, b3, b4, b5, b6, b7, b8, b9, b10, b11, b12, b13, b14, b15, b16, b17, b18, b19, b20, b21, b22, b23, b24, b25, b26, ())
       else
        if b4 = true then
         laws_FnApartOf_L7 impl_Apart laws_big spec_Apart spec_DrawKernel spec_TurnOf spec_WindowAt k ((wrap64 (b0 + 1)), b1, b2, b3, b4, b5, b6, b7, b8, b9, b10, b11, b12, b13, b14, b15, b16, b17, b18, b19, b20, b21, b22, b23, b24, b25, b26, ())
        else
         (impl_Apart k ((b7, (b8, (b9, (b10, (b11, (b12, (b13, (b14, (b15, (b1, (b2, b16))))))))))), ((b17, (b18, (b19, (b20, (b21, (b22, (b23, (b24, (b25, (b3, (b4, b26))))))))))), b0))).bind fun v3 =>
         if v3 = true then
          laws_FnApartOf_L7 impl_Apart laws_big spec_Apart spec_DrawKernel spec_TurnOf spec_WindowAt k ((wrap64 (b0 + 1)), b1, b2, b3, b4, b5, b6, b7, b8, b9, b10, b11, b12, b13, b14, b15, b16, b17, b18, b19, b20, b21, b22, b23, b24, b25, b26, ())
         else
          some false
      else
       some false
     else
      some false
    else
     (impl_Apart k ((b7, (b8, (b9, (b10, (b11, (b12, (b13, (b14, (b15, (b1, (b2, b16))))))))))), ((b17, (b18, (b19, (b20, (b21, (b22, (b23, (b24, (b25, (b3, (b4, b26))))))))))), 9))).bind fun v4 =>
     some v4
def laws_FnApartOf_ (impl_Apart : Nat → ((List (Int × Int)) × (List (Int × Int)) × (List (Int × (Int × (Int × (Int × Int))))) × (List (Int × (Int × Int))) × List ByteArray × List Int × (List (Int × ((Int × (List Int)) × (Int × (Int × Int))))) × (List (List (Int × Int))) × List Int × Int × Bool × (List (Int × (Int × (Int × (Int × Int)))))) × ((List (Int × Int)) × (List (Int × Int)) × (List (Int × (Int × (Int × (Int × Int))))) × (List (Int × (Int × Int))) × List ByteArray × List Int × (List (Int × ((Int × (List Int)) × (Int × (Int × Int))))) × (List (List (Int × Int))) × List Int × Int × Bool × (List (Int × (Int × (Int × (Int × Int)))))) × Int → Option (Bool)) (laws_big : Nat → List Int → Option (Bool)) (spec_Apart : Nat → ((List (Int × Int)) × (List (Int × Int)) × (List (Int × (Int × (Int × (Int × Int))))) × (List (Int × (Int × Int))) × List ByteArray × List Int × (List (Int × ((Int × (List Int)) × (Int × (Int × Int))))) × (List (List (Int × Int))) × List Int × Int × Bool × (List (Int × (Int × (Int × (Int × Int)))))) × ((List (Int × Int)) × (List (Int × Int)) × (List (Int × (Int × (Int × (Int × Int))))) × (List (Int × (Int × Int))) × List ByteArray × List Int × (List (Int × ((Int × (List Int)) × (Int × (Int × Int))))) × (List (List (Int × Int))) × List Int × Int × Bool × (List (Int × (Int × (Int × (Int × Int)))))) × Int → Option (Bool)) (spec_DrawKernel : Nat → List Int → Option (((List (Int × Int)) × (List (Int × Int)) × (List (Int × (Int × (Int × (Int × Int))))) × (List (Int × (Int × Int))) × List ByteArray × List Int × (List (Int × ((Int × (List Int)) × (Int × (Int × Int))))) × (List (List (Int × Int))) × List Int × Int × Bool × (List (Int × (Int × (Int × (Int × Int)))))) × List Int)) (spec_TurnOf : Nat → ((List (Int × Int)) × (List (Int × Int)) × (List (Int × (Int × (Int × (Int × Int))))) × (List (Int × (Int × Int))) × List ByteArray × List Int × (List (Int × ((Int × (List Int)) × (Int × (Int × Int))))) × (List (List (Int × Int))) × List Int × Int × Bool × (List (Int × (Int × (Int × (Int × Int)))))) × List Int → Option (((List (Int × Int)) × (List (Int × Int)) × (List (Int × (Int × (Int × (Int × Int))))) × (List (Int × (Int × Int))) × List ByteArray × List Int × (List (Int × ((Int × (List Int)) × (Int × (Int × Int))))) × (List (List (Int × Int))) × List Int × Int × Bool × (List (Int × (Int × (Int × (Int × Int)))))))) (spec_WindowAt : Nat → ((List (Int × Int))) × Int → Option ((Int × Int))) (k : Nat) : List Int → Option (Bool)
  | a0 =>
  (laws_big k a0).bind fun v0 =>
  if v0 = true then
   some true
  else
   (spec_DrawKernel k a0).bind fun v1 =>
   (spec_TurnOf k v1).bind fun v2 =>
   (spec_WindowAt k (v1.1.2.1, v1.1.2.2.2.2.2.2.2.2.2.1)).bind fun v3 =>
   laws_FnApartOf_L7 impl_Apart laws_big spec_Apart spec_DrawKernel spec_TurnOf spec_WindowAt k (1, v1.1.2.2.2.2.2.2.2.2.2.1, v1.1.2.2.2.2.2.2.2.2.2.2.1, v2.2.2.2.2.2.2.2.2.2.1, v2.2.2.2.2.2.2.2.2.2.2.1, v3.1, v3.2, v1.1.1, v1.1.2.1, v1.1.2.2.1, v1.1.2.2.2.1, v1.1.2.2.2.2.1, v1.1.2.2.2.2.2.1, v1.1.2.2.2.2.2.2.1, v1.1.2.2.2.2.2.2.2.1, v1.1.2.2.2.2.2.2.2.2.1, v1.1.2.2.2.2.2.2.2.2.2.2.2, v2.1, v2.2.1, v2.2.2.1, v2.2.2.2.1, v2.2.2.2.2.1, v2.2.2.2.2.2.1, v2.2.2.2.2.2.2.1, v2.2.2.2.2.2.2.2.1, v2.2.2.2.2.2.2.2.2.1, v2.2.2.2.2.2.2.2.2.2.2.2, ())
noncomputable def g_laws_FnApartOf : List Int → Option (Bool) := evG (laws_FnApartOf_ (fun _ => g_impl_Apart) (fun _ => g_laws_big) (fun _ => g_spec_Apart) (fun _ => g_spec_DrawKernel) (fun _ => g_spec_TurnOf) (fun _ => g_spec_WindowAt))
theorem e_laws_FnApartOf : ∀ x b, g_laws_FnApartOf x = some b → ∃ k, laws_FnApartOf_ (fun _ => g_impl_Apart) (fun _ => g_laws_big) (fun _ => g_spec_Apart) (fun _ => g_spec_DrawKernel) (fun _ => g_spec_TurnOf) (fun _ => g_spec_WindowAt) k x = some b := evG_e _
end Go.Sx.T
