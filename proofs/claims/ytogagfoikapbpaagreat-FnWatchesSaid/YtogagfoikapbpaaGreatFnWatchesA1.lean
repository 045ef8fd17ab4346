/- Functions of the program as functions of Lean, and that the program keeps to them. -/
import Derived.Test.YtogagfoikapbpaaGreatFnWatchesA0
set_option maxRecDepth 100000
set_option linter.unusedVariables false
set_option linter.unusedSimpArgs false
namespace Go.Proofs
end Go.Proofs
namespace Go.Sx.T
open Go Go.Sx Go.Proofs Go.RowKit
/- spec_l02Spoilt -/
def con_spec_l02Spoilt (f : Nat → (List Int × Int × Int) × ByteArray → Option (ByteArray × (Unit × Int × Int))) : Con := ⟨[.ptr [.sl (.int .u8), .int .i64, .int .i64] 152, .c (.str)], 1, [.v false [.str], .box [.keep, .int .i64, .int .i64] 152], f⟩
def spec_l02Spoilt_ (spec_l01Below : Nat → (List Int × Int × Int) × Int → Option (Int × (Unit × Int × Int))) (spec_l01Text : Nat → (List Int × Int × Int) × Int → Option (ByteArray × (Unit × Int × Int))) (k : Nat) : (List Int × Int × Int) × ByteArray → Option (ByteArray × (Unit × Int × Int))
  | ((a0, a1, a2), a3) =>
  (spec_l01Below k ((a0, (a1, a2)), 12)).bind fun v0 =>
  if v0.1 = 0 then
   (spec_l01Text k ((a0, v0.2.2), 1)).bind fun v1 =>
   if ((ByteArray.size a3 + ByteArray.size v1.1 : Nat) : Int) ≤ 9223372036854775807 then some ((a3 ++ v1.1), ((), v1.2.2)) else none
  else
   if v0.1 = 1 then
    (spec_l01Below k ((a0, v0.2.2), (wrap64 (((ByteArray.size a3 : Nat) : Int) + 1)))).bind fun v2 =>
    if 0 ≤ v2.1 then
     if v2.1 ≤ ((ByteArray.size a3 : Nat) : Int) then some ((ByteArray.extract a3 (Int.toNat 0) (Int.toNat v2.1)), ((), v2.2.2)) else none
    else
     none
   else
    if v0.1 = 2 then
     if v0.1 = 2 then
      if 0 < ((ByteArray.size a3 : Nat) : Int) then
       (spec_l01Below k ((a0, v0.2.2), ((ByteArray.size a3 : Nat) : Int))).bind fun v3 =>
       if 0 ≤ v3.1 then
        if v3.1 ≤ ((ByteArray.size a3 : Nat) : Int) then
         if 0 ≤ (wrap64 (v3.1 + 1)) then
          if (wrap64 (v3.1 + 1)) ≤ ((ByteArray.size a3 : Nat) : Int) then (spec_l01Text k ((a0, v3.2.2), 1)).bind fun v4 =>
           if ((ByteArray.size (ByteArray.extract a3 (Int.toNat 0) (Int.toNat v3.1)) + ByteArray.size v4.1 : Nat) : Int) ≤ 9223372036854775807 then
            if ((ByteArray.size ((ByteArray.extract a3 (Int.toNat 0) (Int.toNat v3.1)) ++ v4.1) + ByteArray.size (ByteArray.extract a3 (Int.toNat (wrap64 (v3.1 + 1))) (Int.toNat ((ByteArray.size a3 : Nat) : Int))) : Nat) : Int) ≤ 9223372036854775807 then some ((((ByteArray.extract a3 (Int.toNat 0) (Int.toNat v3.1)) ++ v4.1) ++ (ByteArray.extract a3 (Int.toNat (wrap64 (v3.1 + 1))) (Int.toNat ((ByteArray.size a3 : Nat) : Int)))), ((), v4.2.2)) else none
           else
            none else none
         else
          none
        else
         none
       else
        none
      else
       some (a3, ((), v0.2.2))
     else
      some (a3, ((), v0.2.2))
    else
     if v0.1 = 3 then
      if 0 < ((ByteArray.size a3 : Nat) : Int) then
       (spec_l01Below k ((a0, v0.2.2), ((ByteArray.size a3 : Nat) : Int))).bind fun v5 =>
       if 0 ≤ v5.1 then
        if v5.1 ≤ ((ByteArray.size a3 : Nat) : Int) then
         if 0 ≤ (wrap64 (v5.1 + 1)) then
          if (wrap64 (v5.1 + 1)) ≤ ((ByteArray.size a3 : Nat) : Int) then (spec_l01Text k ((a0, v5.2.2), 1)).bind fun v6 =>
           if ((ByteArray.size (ByteArray.extract a3 (Int.toNat 0) (Int.toNat v5.1)) + ByteArray.size v6.1 : Nat) : Int) ≤ 9223372036854775807 then
            if ((ByteArray.size ((ByteArray.extract a3 (Int.toNat 0) (Int.toNat v5.1)) ++ v6.1) + ByteArray.size (ByteArray.extract a3 (Int.toNat (wrap64 (v5.1 + 1))) (Int.toNat ((ByteArray.size a3 : Nat) : Int))) : Nat) : Int) ≤ 9223372036854775807 then some ((((ByteArray.extract a3 (Int.toNat 0) (Int.toNat v5.1)) ++ v6.1) ++ (ByteArray.extract a3 (Int.toNat (wrap64 (v5.1 + 1))) (Int.toNat ((ByteArray.size a3 : Nat) : Int)))), ((), v6.2.2)) else none
           else
            none else none
         else
          none
        else
         none
       else
        none
      else
       some (a3, ((), v0.2.2))
     else
      some (a3, ((), v0.2.2))
noncomputable def g_spec_l02Spoilt : (List Int × Int × Int) × ByteArray → Option (ByteArray × (Unit × Int × Int)) := spec_l02Spoilt_ (fun _ => g_spec_l01Below) (fun _ => g_spec_l01Text) 0
theorem e_spec_l02Spoilt : ∀ x b, g_spec_l02Spoilt x = some b → ∃ k, spec_l02Spoilt_ (fun _ => g_spec_l01Below) (fun _ => g_spec_l01Text) k x = some b := fun x b h => ⟨0, h⟩
/- spec_l01Once -/
def con_spec_l01Once (f : Nat → (List Int × Int × Int) × Int → Option (Bool × (Unit × Int × Int))) : Con := ⟨[.ptr [.sl (.int .u8), .int .i64, .int .i64] 152, .c (.int .i64)], 1, [.v false [.bool], .box [.keep, .int .i64, .int .i64] 152], f⟩
def spec_l01Once_ (spec_l01Below : Nat → (List Int × Int × Int) × Int → Option (Int × (Unit × Int × Int))) (k : Nat) : (List Int × Int × Int) × Int → Option (Bool × (Unit × Int × Int))
  | ((a0, a1, a2), a3) =>
  (spec_l01Below k ((a0, (a1, a2)), a3)).bind fun v0 =>
  some ((decide (v0.1 = 0)), ((), v0.2.2))
noncomputable def g_spec_l01Once : (List Int × Int × Int) × Int → Option (Bool × (Unit × Int × Int)) := spec_l01Once_ (fun _ => g_spec_l01Below) 0
theorem e_spec_l01Once : ∀ x b, g_spec_l01Once x = some b → ∃ k, spec_l01Once_ (fun _ => g_spec_l01Below) k x = some b := fun x b h => ⟨0, h⟩
/- spec_l01PickInt -/
def con_spec_l01PickInt (f : Nat → (List Int × Int × Int) × List Int → Option (Int × (Unit × Int × Int))) : Con := ⟨[.ptr [.sl (.int .u8), .int .i64, .int .i64] 152, .c (.sl (.int .i64))], 1, [.v false [.int .i64], .box [.keep, .int .i64, .int .i64] 152], f⟩
def spec_l01PickInt_ (spec_l01Below : Nat → (List Int × Int × Int) × Int → Option (Int × (Unit × Int × Int))) (k : Nat) : (List Int × Int × Int) × List Int → Option (Int × (Unit × Int × Int))
  | ((a0, a1, a2), a3) =>
  (spec_l01Below k ((a0, (a1, a2)), ((List.length a3 : Nat) : Int))).bind fun v0 =>
  if 0 ≤ v0.1 then
   if v0.1 < ((List.length a3 : Nat) : Int) then some ((List.getD a3 (Int.toNat v0.1) 0), ((), v0.2.2)) else none
  else
   none
noncomputable def g_spec_l01PickInt : (List Int × Int × Int) × List Int → Option (Int × (Unit × Int × Int)) := spec_l01PickInt_ (fun _ => g_spec_l01Below) 0
theorem e_spec_l01PickInt : ∀ x b, g_spec_l01PickInt x = some b → ∃ k, spec_l01PickInt_ (fun _ => g_spec_l01Below) k x = some b := fun x b h => ⟨0, h⟩
/- spec_l14Order -/
def con_spec_l14Order (f : Nat → (List Int × Int × Int) → Option ((Int × Int × Int × Int) × (Unit × Int × Int))) : Con := ⟨[.ptr [.sl (.int .u8), .int .i64, .int .i64] 152], 1, [.v true [.int .i64, .int .i64, .int .i64, .int .i64], .box [.keep, .int .i64, .int .i64] 152], f⟩
def spec_l14Order_ (spec_l01Below : Nat → (List Int × Int × Int) × Int → Option (Int × (Unit × Int × Int))) (spec_l01PickInt : Nat → (List Int × Int × Int) × List Int → Option (Int × (Unit × Int × Int))) (k : Nat) : (List Int × Int × Int) → Option ((Int × Int × Int × Int) × (Unit × Int × Int))
  | (a0, a1, a2) =>
  (spec_l01PickInt k ((a0, (a1, a2)), [1, 1, 1, 2, 2, 3, 4, 5, 6])).bind fun v0 =>
  if v0.1 = 1 then
   (spec_l01Below k ((a0, v0.2.2), 9)).bind fun v1 =>
   (spec_l01Below k ((a0, v1.2.2), (wrap64 (3 * (wrap64 (1 + v1.1)))))).bind fun v2 =>
   (spec_l01Below k ((a0, v2.2.2), 60)).bind fun v3 =>
   some ((v0.1, ((wrap64 (1 + v2.1)), ((wrap64 (1 + v1.1)), (wrap64 (1 + v3.1))))), ((), v3.2.2))
  else
   if v0.1 = 2 then
    (spec_l01Below k ((a0, v0.2.2), 40)).bind fun v4 =>
    some ((v0.1, (0, (0, (wrap64 (1 + v4.1))))), ((), v4.2.2))
   else
    some ((v0.1, (0, (0, 0))), ((), v0.2.2))
noncomputable def g_spec_l14Order : (List Int × Int × Int) → Option ((Int × Int × Int × Int) × (Unit × Int × Int)) := spec_l14Order_ (fun _ => g_spec_l01Below) (fun _ => g_spec_l01PickInt) 0
theorem e_spec_l14Order : ∀ x b, g_spec_l14Order x = some b → ∃ k, spec_l14Order_ (fun _ => g_spec_l01Below) (fun _ => g_spec_l01PickInt) k x = some b := fun x b h => ⟨0, h⟩
/- spec_l01Pick -/
def con_spec_l01Pick (f : Nat → (List Int × Int × Int) × List ByteArray → Option (ByteArray × (Unit × Int × Int))) : Con := ⟨[.ptr [.sl (.int .u8), .int .i64, .int .i64] 152, .c (.sl .str)], 1, [.v false [.str], .box [.keep, .int .i64, .int .i64] 152], f⟩
def spec_l01Pick_ (spec_l01Below : Nat → (List Int × Int × Int) × Int → Option (Int × (Unit × Int × Int))) (k : Nat) : (List Int × Int × Int) × List ByteArray → Option (ByteArray × (Unit × Int × Int))
  | ((a0, a1, a2), a3) =>
  (spec_l01Below k ((a0, (a1, a2)), ((List.length a3 : Nat) : Int))).bind fun v0 =>
  if 0 ≤ v0.1 then
   if v0.1 < ((List.length a3 : Nat) : Int) then some ((List.getD a3 (Int.toNat v0.1) (⟨#[]⟩ : ByteArray)), ((), v0.2.2)) else none
  else
   none
noncomputable def g_spec_l01Pick : (List Int × Int × Int) × List ByteArray → Option (ByteArray × (Unit × Int × Int)) := spec_l01Pick_ (fun _ => g_spec_l01Below) 0
theorem e_spec_l01Pick : ∀ x b, g_spec_l01Pick x = some b → ∃ k, spec_l01Pick_ (fun _ => g_spec_l01Below) k x = some b := fun x b h => ⟨0, h⟩
/- spec_l17Keys -/
def con_spec_l17Keys (f : Nat → (List Int × Int × Int) → Option (ByteArray × (Unit × Int × Int))) : Con := ⟨[.ptr [.sl (.int .u8), .int .i64, .int .i64] 152], 1, [.v false [.str], .box [.keep, .int .i64, .int .i64] 152], f⟩
def spec_l17Keys_L3 (spec_l01Below : Nat → (List Int × Int × Int) × Int → Option (Int × (Unit × Int × Int))) (spec_l01Pick : Nat → (List Int × Int × Int) × List ByteArray → Option (ByteArray × (Unit × Int × Int))) : Nat → ByteArray × Int × Int × Int × List Int × Unit → Option (ByteArray × (Unit × Int × Int))
  | 0, _ => none
  | k + 1, (b0, b1, b2, b3, b4, ()) =>
    (spec_l01Below k ((b4, (b2, b3)), 3)).bind fun v0 =>
    if b1 < v0.1 then
     (spec_l01Pick k ((b4, v0.2.2), [(⟨#[98, 50, 10, 53, 10, 50, 48, 10]⟩ : ByteArray), (⟨#[111, 57, 10]⟩ : ByteArray), (⟨#[112]⟩ : ByteArray), (⟨#[103]⟩ : ByteArray), (⟨#[115]⟩ : ByteArray), (⟨#[120]⟩ : ByteArray), (⟨#[98, 51, 10, 49, 10]⟩ : ByteArray), (⟨#[52, 48, 10]⟩ : ByteArray), (⟨#[99]⟩ : ByteArray), (⟨#[113]⟩ : ByteArray), (⟨#[98, 48, 10]⟩ : ByteArray)])).bind fun v1 =>
     if ((ByteArray.size b0 + ByteArray.size v1.1 : Nat) : Int) ≤ 9223372036854775807 then spec_l17Keys_L3 spec_l01Below spec_l01Pick k ((b0 ++ v1.1), (wrap64 (b1 + 1)), v1.2.2.1, v1.2.2.2, b4, ()) else none
    else
     some (b0, ((), v0.2.2))
def spec_l17Keys_ (spec_l01Below : Nat → (List Int × Int × Int) × Int → Option (Int × (Unit × Int × Int))) (spec_l01Pick : Nat → (List Int × Int × Int) × List ByteArray → Option (ByteArray × (Unit × Int × Int))) (k : Nat) : (List Int × Int × Int) → Option (ByteArray × (Unit × Int × Int))
  | (a0, a1, a2) =>
  spec_l17Keys_L3 spec_l01Below spec_l01Pick k ((⟨#[]⟩ : ByteArray), 0, a1, a2, a0, ())
noncomputable def g_spec_l17Keys : (List Int × Int × Int) → Option (ByteArray × (Unit × Int × Int)) := evG (spec_l17Keys_ (fun _ => g_spec_l01Below) (fun _ => g_spec_l01Pick))
theorem e_spec_l17Keys : ∀ x b, g_spec_l17Keys x = some b → ∃ k, spec_l17Keys_ (fun _ => g_spec_l01Below) (fun _ => g_spec_l01Pick) k x = some b := evG_e _
/- spec_l18In -/
def con_spec_l18In (f : Nat → (List Int × Int × Int) → Option ((Int × ByteArray × ByteArray) × (Unit × Int × Int))) : Con := ⟨[.ptr [.sl (.int .u8), .int .i64, .int .i64] 152], 1, [.v true [.int .i64, .str, .str], .box [.keep, .int .i64, .int .i64] 152], f⟩
def spec_l18In_ (spec_OrderText : Nat → (Int × Int × Int × Int) → Option (ByteArray × Bool)) (spec_l01Once : Nat → (List Int × Int × Int) × Int → Option (Bool × (Unit × Int × Int))) (spec_l01PickInt : Nat → (List Int × Int × Int) × List Int → Option (Int × (Unit × Int × Int))) (spec_l02Spoilt : Nat → (List Int × Int × Int) × ByteArray → Option (ByteArray × (Unit × Int × Int))) (spec_l14Order : Nat → (List Int × Int × Int) → Option ((Int × Int × Int × Int) × (Unit × Int × Int))) (spec_l17Keys : Nat → (List Int × Int × Int) → Option (ByteArray × (Unit × Int × Int))) (k : Nat) : (List Int × Int × Int) → Option ((Int × ByteArray × ByteArray) × (Unit × Int × Int))
  | (a0, a1, a2) =>
  (spec_l01Once k ((a0, (a1, a2)), 8)).bind fun v0 =>
  if v0.1 = true then
   (spec_l01PickInt k ((a0, v0.2.2), [1, 2, 4, 8, 5, 15])).bind fun v1 =>
   (spec_l01Once k ((a0, v1.2.2), 3)).bind fun v2 =>
   if v2.1 = true then
    (spec_l17Keys k (a0, v2.2.2)).bind fun v3 =>
    if 20 < ((ByteArray.size v3.1 : Nat) : Int) then
     if 0 ≤ 20 then
      if 20 ≤ ((ByteArray.size v3.1 : Nat) : Int) then (spec_l01Once k ((a0, v3.2.2), 6)).bind fun v4 =>
       if v4.1 = true then
        (spec_l14Order k (a0, v4.2.2)).bind fun v5 =>
        (spec_OrderText k v5.1).bind fun v6 =>
        (spec_l01Once k ((a0, v5.2.2), 6)).bind fun v7 =>
        if v7.1 = true then
         (spec_l02Spoilt k ((a0, v7.2.2), v6.1)).bind fun v8 =>
         if 40 < ((ByteArray.size v8.1 : Nat) : Int) then
          some ((v1.1, ((ByteArray.extract v3.1 (Int.toNat 0) (Int.toNat 20)), (⟨#[120]⟩ : ByteArray))), ((), v8.2.2))
         else
          some ((v1.1, ((ByteArray.extract v3.1 (Int.toNat 0) (Int.toNat 20)), v8.1)), ((), v8.2.2))
        else
         if 40 < ((ByteArray.size v6.1 : Nat) : Int) then
          some ((v1.1, ((ByteArray.extract v3.1 (Int.toNat 0) (Int.toNat 20)), (⟨#[120]⟩ : ByteArray))), ((), v7.2.2))
         else
          some ((v1.1, ((ByteArray.extract v3.1 (Int.toNat 0) (Int.toNat 20)), v6.1)), ((), v7.2.2))
       else
        some ((v1.1, ((ByteArray.extract v3.1 (Int.toNat 0) (Int.toNat 20)), (⟨#[]⟩ : ByteArray))), ((), v4.2.2)) else none
     else
      none
    else
     (spec_l01Once k ((a0, v3.2.2), 6)).bind fun v9 =>
     if v9.1 = true then
      (spec_l14Order k (a0, v9.2.2)).bind fun v10 =>
      (spec_OrderText k v10.1).bind fun v11 =>
      (spec_l01Once k ((a0, v10.2.2), 6)).bind fun v12 =>
      if v12.1 = true then
       (spec_l02Spoilt k ((a0, v12.2.2), v11.1)).bind fun v13 =>
       if 40 < ((ByteArray.size v13.1 : Nat) : Int) then
        some ((v1.1, (v3.1, (⟨#[120]⟩ : ByteArray))), ((), v13.2.2))
       else
        some ((v1.1, (v3.1, v13.1)), ((), v13.2.2))
      else
       if 40 < ((ByteArray.size v11.1 : Nat) : Int) then
        some ((v1.1, (v3.1, (⟨#[120]⟩ : ByteArray))), ((), v12.2.2))
       else
        some ((v1.1, (v3.1, v11.1)), ((), v12.2.2))
     else
      some ((v1.1, (v3.1, (⟨#[]⟩ : ByteArray))), ((), v9.2.2))
   else
    (spec_l01Once k ((a0, v2.2.2), 6)).bind fun v14 =>
    if v14.1 = true then
     (spec_l14Order k (a0, v14.2.2)).bind fun v15 =>
     (spec_OrderText k v15.1).bind fun v16 =>
     (spec_l01Once k ((a0, v15.2.2), 6)).bind fun v17 =>
     if v17.1 = true then
      (spec_l02Spoilt k ((a0, v17.2.2), v16.1)).bind fun v18 =>
      if 40 < ((ByteArray.size v18.1 : Nat) : Int) then
       some ((v1.1, ((⟨#[]⟩ : ByteArray), (⟨#[120]⟩ : ByteArray))), ((), v18.2.2))
      else
       some ((v1.1, ((⟨#[]⟩ : ByteArray), v18.1)), ((), v18.2.2))
     else
      if 40 < ((ByteArray.size v16.1 : Nat) : Int) then
       some ((v1.1, ((⟨#[]⟩ : ByteArray), (⟨#[120]⟩ : ByteArray))), ((), v17.2.2))
      else
       some ((v1.1, ((⟨#[]⟩ : ByteArray), v16.1)), ((), v17.2.2))
    else
     some ((v1.1, ((⟨#[]⟩ : ByteArray), (⟨#[]⟩ : ByteArray))), ((), v14.2.2))
  else
   (spec_l01Once k ((a0, v0.2.2), 3)).bind fun v19 =>
   if v19.1 = true then
    (spec_l17Keys k (a0, v19.2.2)).bind fun v20 =>
    if 20 < ((ByteArray.size v20.1 : Nat) : Int) then
     if 0 ≤ 20 then
      if 20 ≤ ((ByteArray.size v20.1 : Nat) : Int) then (spec_l01Once k ((a0, v20.2.2), 6)).bind fun v21 =>
       if v21.1 = true then
        (spec_l14Order k (a0, v21.2.2)).bind fun v22 =>
        (spec_OrderText k v22.1).bind fun v23 =>
        (spec_l01Once k ((a0, v22.2.2), 6)).bind fun v24 =>
        if v24.1 = true then
         (spec_l02Spoilt k ((a0, v24.2.2), v23.1)).bind fun v25 =>
         if 40 < ((ByteArray.size v25.1 : Nat) : Int) then
          some ((0, ((ByteArray.extract v20.1 (Int.toNat 0) (Int.toNat 20)), (⟨#[120]⟩ : ByteArray))), ((), v25.2.2))
         else
          some ((0, ((ByteArray.extract v20.1 (Int.toNat 0) (Int.toNat 20)), v25.1)), ((), v25.2.2))
        else
         if 40 < ((ByteArray.size v23.1 : Nat) : Int) then
          some ((0, ((ByteArray.extract v20.1 (Int.toNat 0) (Int.toNat 20)), (⟨#[120]⟩ : ByteArray))), ((), v24.2.2))
         else
          some ((0, ((ByteArray.extract v20.1 (Int.toNat 0) (Int.toNat 20)), v23.1)), ((), v24.2.2))
       else
        some ((0, ((ByteArray.extract v20.1 (Int.toNat 0) (Int.toNat 20)), (⟨#[]⟩ : ByteArray))), ((), v21.2.2)) else none
     else
      none
    else
     (spec_l01Once k ((a0, v20.2.2), 6)).bind fun v26 =>
     if v26.1 = true then
      (spec_l14Order k (a0, v26.2.2)).bind fun v27 =>
      (spec_OrderText k v27.1).bind fun v28 =>
      (spec_l01Once k ((a0, v27.2.2), 6)).bind fun v29 =>
      if v29.1 = true then
       (spec_l02Spoilt k ((a0, v29.2.2), v28.1)).bind fun v30 =>
       if 40 < ((ByteArray.size v30.1 : Nat) : Int) then
        some ((0, (v20.1, (⟨#[120]⟩ : ByteArray))), ((), v30.2.2))
       else
        some ((0, (v20.1, v30.1)), ((), v30.2.2))
      else
       if 40 < ((ByteArray.size v28.1 : Nat) : Int) then
        some ((0, (v20.1, (⟨#[120]⟩ : ByteArray))), ((), v29.2.2))
       else
        some ((0, (v20.1, v28.1)), ((), v29.2.2))
     else
      some ((0, (v20.1, (⟨#[]⟩ : ByteArray))), ((), v26.2.2))
   else
    (spec_l01Once k ((a0, v19.2.2), 6)).bind fun v31 =>
    if v31.1 = true then
     (spec_l14Order k (a0, v31.2.2)).bind fun v32 =>
     (spec_OrderText k v32.1).bind fun v33 =>
     (spec_l01Once k ((a0, v32.2.2), 6)).bind fun v34 =>
     if v34.1 = true then
      (spec_l02Spoilt k ((a0, v34.2.2), v33.1)).bind fun v35 =>
      if 40 < ((ByteArray.size v35.1 : Nat) : Int) then
       some ((0, ((⟨#[]⟩ : ByteArray), (⟨#[120]⟩ : ByteArray))), ((), v35.2.2))
      else
       some ((0, ((⟨#[]⟩ : ByteArray), v35.1)), ((), v35.2.2))
     else
      if 40 < ((ByteArray.size v33.1 : Nat) : Int) then
       some ((0, ((⟨#[]⟩ : ByteArray), (⟨#[120]⟩ : ByteArray))), ((), v34.2.2))
      else
       some ((0, ((⟨#[]⟩ : ByteArray), v33.1)), ((), v34.2.2))
    else
     some ((0, ((⟨#[]⟩ : ByteArray), (⟨#[]⟩ : ByteArray))), ((), v31.2.2))
noncomputable def g_spec_l18In : (List Int × Int × Int) → Option ((Int × ByteArray × ByteArray) × (Unit × Int × Int)) := spec_l18In_ (fun _ => g_spec_OrderText) (fun _ => g_spec_l01Once) (fun _ => g_spec_l01PickInt) (fun _ => g_spec_l02Spoilt) (fun _ => g_spec_l14Order) (fun _ => g_spec_l17Keys) 0
theorem e_spec_l18In : ∀ x b, g_spec_l18In x = some b → ∃ k, spec_l18In_ (fun _ => g_spec_OrderText) (fun _ => g_spec_l01Once) (fun _ => g_spec_l01PickInt) (fun _ => g_spec_l02Spoilt) (fun _ => g_spec_l14Order) (fun _ => g_spec_l17Keys) k x = some b := fun x b h => ⟨0, h⟩
/- spec_l18Ins -/
def con_spec_l18Ins (f : Nat → (List Int × Int × Int) × List Int → Option (((List (Int × (ByteArray × ByteArray)))) × (Unit × Int × Int))) : Con := ⟨[.ptr [.sl (.int .u8), .int .i64, .int .i64] 152, .c (.sl (.int .u8))], 1, [.v false [.own (.pair (.int .i64) (.pair .str .str)) 59], .box [.keep, .int .i64, .int .i64] 152], f⟩
def spec_l18Ins_L6 (spec_l18In : Nat → (List Int × Int × Int) → Option ((Int × ByteArray × ByteArray) × (Unit × Int × Int))) : Nat → Int × Int × Int × Int × List Int × (List (Int × (ByteArray × ByteArray))) × Unit → Option (((List (Int × (ByteArray × ByteArray)))) × (Unit × Int × Int))
  | 0, _ => none
  | k + 1, (b0, b1, b2, b3, b4, b5, ()) =>
    if b1 < b0 then
     (spec_l18In k (b4, (b2, b3))).bind fun v0 =>
     if (((List.length b5 + List.length [v0.1] : Nat) : Int) * ((40 : Nat) : Int)) ≤ 140737488355328 then spec_l18Ins_L6 spec_l18In k (b0, (wrap64 (b1 + 1)), v0.2.2.1, v0.2.2.2, b4, (b5 ++ [v0.1]), ()) else none
    else
     if 0 < ((List.length b5 : Nat) : Int) then
      if 0 ≤ 0 then
       if 0 < ((List.length b5 : Nat) : Int) then some ((List.set b5 (Int.toNat 0) ((List.getD b5 (Int.toNat 0) (0, ((⟨#[]⟩ : ByteArray), (⟨#[]⟩ : ByteArray)))).1, ((⟨#[98, 50, 10, 49, 10, 54, 48, 10]⟩ : ByteArray), (List.getD b5 (Int.toNat 0) (0, ((⟨#[]⟩ : ByteArray), (⟨#[]⟩ : ByteArray)))).2.2))), ((), (b2, b3))) else none
      else
       none
     else
      some (b5, ((), (b2, b3)))
def spec_l18Ins_ (spec_l18In : Nat → (List Int × Int × Int) → Option ((Int × ByteArray × ByteArray) × (Unit × Int × Int))) (k : Nat) : (List Int × Int × Int) × List Int → Option (((List (Int × (ByteArray × ByteArray)))) × (Unit × Int × Int))
  | ((a0, a1, a2), a3) =>
  if 3 = 0 then
   none
  else
   if 120 < (wrap64 (10 + (wrap64 (Int.tdiv ((List.length a3 : Nat) : Int) 3)))) then
    spec_l18Ins_L6 spec_l18In k (120, 0, a1, a2, a0, ([] : List (Int × (ByteArray × ByteArray))), ())
   else
    spec_l18Ins_L6 spec_l18In k ((wrap64 (10 + (wrap64 (Int.tdiv ((List.length a3 : Nat) : Int) 3)))), 0, a1, a2, a0, ([] : List (Int × (ByteArray × ByteArray))), ())
noncomputable def g_spec_l18Ins : (List Int × Int × Int) × List Int → Option (((List (Int × (ByteArray × ByteArray)))) × (Unit × Int × Int)) := evG (spec_l18Ins_ (fun _ => g_spec_l18In))
theorem e_spec_l18Ins : ∀ x b, g_spec_l18Ins x = some b → ∃ k, spec_l18Ins_ (fun _ => g_spec_l18In) k x = some b := evG_e _
/- spec_l01New -/
def con_spec_l01New (f : Nat → List Int → Option ((Unit × Int × Int))) : Con := ⟨[.c (.sl (.int .u8))], 1, [.box [.al 0 0, .int .i64, .int .i64] 152], f⟩
def spec_l01New_L3 : Nat → Int × Int × List Int × Unit → Option ((Unit × Int × Int))
  | 0, _ => none
  | k + 1, (b0, b1, b2, ()) =>
    if b1 < ((List.length b2 : Nat) : Int) then
     if b1 < 4000 then
      if 0 ≤ b1 then
       if b1 < ((List.length b2 : Nat) : Int) then spec_l01New_L3 k ((iand .i64 (wrap64 ((wrap64 ((wrap64 (b0 * 131)) + (wrap64 (List.getD b2 (Int.toNat b1) 0)))) + 7)) 1073741823), (wrap64 (b1 + 1)), b2, ()) else none
      else
       none
     else
      some ((), (0, b0))
    else
     some ((), (0, b0))
def spec_l01New_ (k : Nat) : List Int → Option ((Unit × Int × Int))
  | a0 =>
  spec_l01New_L3 k ((wrap64 (37101 + ((List.length a0 : Nat) : Int))), 0, a0, ())
noncomputable def g_spec_l01New : List Int → Option ((Unit × Int × Int)) := evG (spec_l01New_ )
theorem e_spec_l01New : ∀ x b, g_spec_l01New x = some b → ∃ k, spec_l01New_  k x = some b := evG_e _
/- spec_DrawIns -/
def con_spec_DrawIns (f : Nat → List Int → Option (((List (Int × (ByteArray × ByteArray)))))) : Con := ⟨[.c (.sl (.int .u8))], 1, [.v false [.own (.pair (.int .i64) (.pair .str .str)) 59]], f⟩
def spec_DrawIns_ (spec_l01New : Nat → List Int → Option ((Unit × Int × Int))) (spec_l18Ins : Nat → (List Int × Int × Int) × List Int → Option (((List (Int × (ByteArray × ByteArray)))) × (Unit × Int × Int))) (k : Nat) : List Int → Option (((List (Int × (ByteArray × ByteArray)))))
  | a0 =>
  (spec_l01New k a0).bind fun v0 =>
  (spec_l18Ins k ((a0, v0.2), a0)).bind fun v1 =>
  some v1.1
noncomputable def g_spec_DrawIns : List Int → Option (((List (Int × (ByteArray × ByteArray))))) := spec_DrawIns_ (fun _ => g_spec_l01New) (fun _ => g_spec_l18Ins) 0
theorem e_spec_DrawIns : ∀ x b, g_spec_DrawIns x = some b → ∃ k, spec_DrawIns_ (fun _ => g_spec_l01New) (fun _ => g_spec_l18Ins) k x = some b := fun x b h => ⟨0, h⟩
/- spec_l17Menu -/
def con_spec_l17Menu (f : Nat → (List Int × Int × Int) → Option ((Int × Bool × Int × Int × ByteArray) × (Unit × Int × Int))) : Con := ⟨[.ptr [.sl (.int .u8), .int .i64, .int .i64] 152], 1, [.v true [.int .i64, .bool, .int .i64, .int .i64, .str], .box [.keep, .int .i64, .int .i64] 152], f⟩
def spec_l17Menu_ (spec_MenuNew : Nat → Unit → Option ((Int × Bool × Int × Int × ByteArray))) (spec_PressAll : Nat → (Int × Bool × Int × Int × ByteArray) × ByteArray → Option ((Int × Bool × Int × Int × ByteArray) × ((List (Int × (Int × (Int × Int))))))) (spec_l01Below : Nat → (List Int × Int × Int) × Int → Option (Int × (Unit × Int × Int))) (spec_l01Pick : Nat → (List Int × Int × Int) × List ByteArray → Option (ByteArray × (Unit × Int × Int))) (spec_l01PickInt : Nat → (List Int × Int × Int) × List Int → Option (Int × (Unit × Int × Int))) (spec_l17Keys : Nat → (List Int × Int × Int) → Option (ByteArray × (Unit × Int × Int))) (k : Nat) : (List Int × Int × Int) → Option ((Int × Bool × Int × Int × ByteArray) × (Unit × Int × Int))
  | (a0, a1, a2) =>
  (spec_MenuNew k ()).bind fun v0 =>
  (spec_l17Keys k (a0, (a1, a2))).bind fun v1 =>
  (spec_l01Pick k ((a0, v1.2.2), [(⟨#[]⟩ : ByteArray), (⟨#[98, 49]⟩ : ByteArray), (⟨#[98, 49, 50, 10, 51]⟩ : ByteArray), (⟨#[111, 55]⟩ : ByteArray)])).bind fun v2 =>
  if ((ByteArray.size v1.1 + ByteArray.size v2.1 : Nat) : Int) ≤ 9223372036854775807 then (spec_PressAll k (v0, (v1.1 ++ v2.1))).bind fun v3 =>
   (spec_l01Below k ((a0, v2.2.2), 16)).bind fun v4 =>
   if v4.1 = 0 then
    (spec_l01Below k ((a0, v4.2.2), 6)).bind fun v5 =>
    some ((v5.1, v3.1.2), ((), v5.2.2))
   else
    if v4.1 = 1 then
     (spec_l01Pick k ((a0, v4.2.2), [(⟨#[49, 50, 51, 52, 53]⟩ : ByteArray), (⟨#[97]⟩ : ByteArray), (⟨#[49]⟩ : ByteArray)])).bind fun v6 =>
     some ((v3.1.1, (v3.1.2.1, (v3.1.2.2.1, (v3.1.2.2.2.1, v6.1)))), ((), v6.2.2))
    else
     if v4.1 = 2 then
      (spec_l01PickInt k ((a0, v4.2.2), [(-1), 9999, 10000])).bind fun v7 =>
      some ((v3.1.1, (v3.1.2.1, (v7.1, v3.1.2.2.2))), ((), v7.2.2))
     else
      some (v3.1, ((), v4.2.2)) else none
noncomputable def g_spec_l17Menu : (List Int × Int × Int) → Option ((Int × Bool × Int × Int × ByteArray) × (Unit × Int × Int)) := spec_l17Menu_ (fun _ => g_spec_MenuNew) (fun _ => g_spec_PressAll) (fun _ => g_spec_l01Below) (fun _ => g_spec_l01Pick) (fun _ => g_spec_l01PickInt) (fun _ => g_spec_l17Keys) 0
theorem e_spec_l17Menu : ∀ x b, g_spec_l17Menu x = some b → ∃ k, spec_l17Menu_ (fun _ => g_spec_MenuNew) (fun _ => g_spec_PressAll) (fun _ => g_spec_l01Below) (fun _ => g_spec_l01Pick) (fun _ => g_spec_l01PickInt) (fun _ => g_spec_l17Keys) k x = some b := fun x b h => ⟨0, h⟩
/- spec_l16Copy -/
def con_spec_l16Copy (f : Nat → (List Int × Int) → Option ((List Int × Int))) : Con := ⟨[.agg [.sl (.int .i64), .int .i64]], 1, [.v true [.own (.int .i64) 3, .int .i64]], f⟩
def spec_l16Copy_ (k : Nat) : (List Int × Int) → Option ((List Int × Int))
  | (a0, a1) =>
  if (((List.length ([] : List Int) + List.length a0 : Nat) : Int) * ((8 : Nat) : Int)) ≤ 140737488355328 then some ((([] : List Int) ++ a0), a1) else none
noncomputable def g_spec_l16Copy : (List Int × Int) → Option ((List Int × Int)) := spec_l16Copy_  0
theorem e_spec_l16Copy : ∀ x b, g_spec_l16Copy x = some b → ∃ k, spec_l16Copy_  k x = some b := fun x b h => ⟨0, h⟩
/- spec_Feel -/
def con_spec_Feel (f : Nat → (List Int × Int) × Int × Bool → Option ((List Int × Int))) : Con := ⟨[.agg [.sl (.int .i64), .int .i64], .c (.int .i64), .c (.bool)], 1, [.v true [.own (.int .i64) 3, .int .i64]], f⟩
def spec_Feel_ (spec_GuardOk : Nat → (List Int × Int) → Option (Bool)) (spec_SenseOk : Nat → Int → Option (Bool)) (spec_l13Both : Nat → Int × Int → Option (Int)) (spec_l16Copy : Nat → (List Int × Int) → Option ((List Int × Int))) (k : Nat) : (List Int × Int) × Int × Bool → Option ((List Int × Int))
  | ((a0, a1), a2, a3) =>
  (spec_l16Copy k (a0, a1)).bind fun v0 =>
  (spec_GuardOk k (a0, a1)).bind fun v1 =>
  if v1 = true then
   (spec_SenseOk k a2).bind fun v2 =>
   if v2 = true then
    (spec_l13Both k (a1, a2)).bind fun v3 =>
    if a3 = true then
     some (v0.1, a2)
    else
     some (v0.1, v3)
   else
    some v0
  else
   some v0
noncomputable def g_spec_Feel : (List Int × Int) × Int × Bool → Option ((List Int × Int)) := spec_Feel_ (fun _ => g_spec_GuardOk) (fun _ => g_spec_SenseOk) (fun _ => g_spec_l13Both) (fun _ => g_spec_l16Copy) 0
theorem e_spec_Feel : ∀ x b, g_spec_Feel x = some b → ∃ k, spec_Feel_ (fun _ => g_spec_GuardOk) (fun _ => g_spec_SenseOk) (fun _ => g_spec_l13Both) (fun _ => g_spec_l16Copy) k x = some b := fun x b h => ⟨0, h⟩
/- spec_l15Less -/
def con_spec_l15Less (f : Nat → Int × Int → Option (Int)) : Con := ⟨[.c (.int .i64), .c (.int .i64)], 1, [.v false [.int .i64]], f⟩
def spec_l15Less_ (k : Nat) : Int × Int → Option (Int)
  | (a0, a1) =>
  if a0 < a1 then
   some a0
  else
   some a1
noncomputable def g_spec_l15Less : Int × Int → Option (Int) := spec_l15Less_  0
theorem e_spec_l15Less : ∀ x b, g_spec_l15Less x = some b → ∃ k, spec_l15Less_  k x = some b := fun x b h => ⟨0, h⟩
/- spec_RoomOf -/
def con_spec_RoomOf (f : Nat → (List Int × Int) → Option (Int)) : Con := ⟨[.agg [.sl (.int .i64), .int .i64]], 1, [.v false [.int .i64]], f⟩
def spec_RoomOf_ (spec_l16Sum : Nat → List Int → Option (Int)) (k : Nat) : (List Int × Int) → Option (Int)
  | (a0, a1) =>
  (spec_l16Sum k a0).bind fun v0 =>
  some (wrap64 (30 - v0))
noncomputable def g_spec_RoomOf : (List Int × Int) → Option (Int) := spec_RoomOf_ (fun _ => g_spec_l16Sum) 0
theorem e_spec_RoomOf : ∀ x b, g_spec_RoomOf x = some b → ∃ k, spec_RoomOf_ (fun _ => g_spec_l16Sum) k x = some b := fun x b h => ⟨0, h⟩
/- spec_Pass -/
def con_spec_Pass (f : Nat → (List Int × Int) × Int → Option ((List Int × Int))) : Con := ⟨[.agg [.sl (.int .i64), .int .i64], .c (.int .i64)], 1, [.v true [.own (.int .i64) 3, .int .i64]], f⟩
def spec_Pass_ (spec_GuardOk : Nat → (List Int × Int) → Option (Bool)) (spec_RoomOf : Nat → (List Int × Int) → Option (Int)) (spec_l15Less : Nat → Int × Int → Option (Int)) (spec_l16Copy : Nat → (List Int × Int) → Option ((List Int × Int))) (k : Nat) : (List Int × Int) × Int → Option ((List Int × Int))
  | ((a0, a1), a2) =>
  (spec_l16Copy k (a0, a1)).bind fun v0 =>
  (spec_GuardOk k (a0, a1)).bind fun v1 =>
  if v1 = true then
   if a2 < 0 then
    (spec_RoomOf k (a0, a1)).bind fun v2 =>
    (spec_l15Less k (0, v2)).bind fun v3 =>
    if (((List.length [v3] + List.length a0 : Nat) : Int) * ((8 : Nat) : Int)) ≤ 140737488355328 then
     if 9 < ((List.length ([v3] ++ a0) : Nat) : Int) then
      if 0 ≤ 9 then
       if 9 ≤ ((List.length ([v3] ++ a0) : Nat) : Int) then
        if (((List.length ([] : List Int) + List.length (List.take (Int.toNat 9) ([v3] ++ a0)) : Nat) : Int) * ((8 : Nat) : Int)) ≤ 140737488355328 then some ((([] : List Int) ++ (List.take (Int.toNat 9) ([v3] ++ a0))), v0.2) else none
       else
        none
      else
       none
     else
      some (([v3] ++ a0), v0.2)
    else
     none
   else
    (spec_RoomOf k (a0, a1)).bind fun v4 =>
    (spec_l15Less k (a2, v4)).bind fun v5 =>
    if (((List.length [v5] + List.length a0 : Nat) : Int) * ((8 : Nat) : Int)) ≤ 140737488355328 then
     if 9 < ((List.length ([v5] ++ a0) : Nat) : Int) then
      if 0 ≤ 9 then
       if 9 ≤ ((List.length ([v5] ++ a0) : Nat) : Int) then
        if (((List.length ([] : List Int) + List.length (List.take (Int.toNat 9) ([v5] ++ a0)) : Nat) : Int) * ((8 : Nat) : Int)) ≤ 140737488355328 then some ((([] : List Int) ++ (List.take (Int.toNat 9) ([v5] ++ a0))), v0.2) else none
       else
        none
      else
       none
     else
      some (([v5] ++ a0), v0.2)
    else
     none
  else
   some v0
noncomputable def g_spec_Pass : (List Int × Int) × Int → Option ((List Int × Int)) := spec_Pass_ (fun _ => g_spec_GuardOk) (fun _ => g_spec_RoomOf) (fun _ => g_spec_l15Less) (fun _ => g_spec_l16Copy) 0
theorem e_spec_Pass : ∀ x b, g_spec_Pass x = some b → ∃ k, spec_Pass_ (fun _ => g_spec_GuardOk) (fun _ => g_spec_RoomOf) (fun _ => g_spec_l15Less) (fun _ => g_spec_l16Copy) k x = some b := fun x b h => ⟨0, h⟩
/- spec_l16Guard -/
def con_spec_l16Guard (f : Nat → (List Int × Int × Int) → Option ((List Int × Int) × (Unit × Int × Int))) : Con := ⟨[.ptr [.sl (.int .u8), .int .i64, .int .i64] 152], 1, [.v true [.own (.int .i64) 3, .int .i64], .box [.keep, .int .i64, .int .i64] 152], f⟩
def spec_l16Guard_L3 (spec_Feel : Nat → (List Int × Int) × Int × Bool → Option ((List Int × Int))) (spec_Pass : Nat → (List Int × Int) × Int → Option ((List Int × Int))) (spec_l01Below : Nat → (List Int × Int × Int) × Int → Option (Int × (Unit × Int × Int))) (spec_l01Once : Nat → (List Int × Int × Int) × Int → Option (Bool × (Unit × Int × Int))) : Nat → Int × Int × Int × List Int × Int × Int × List Int × List Int × Unit → Option ((List Int × Int) × (Unit × Int × Int))
  | 0, _ => none
  | k + 1, (b0, b1, b2, b3, b4, b5, b6, b7, ()) =>
    (spec_l01Below k ((b3, (b1, b2)), 14)).bind fun v0 =>
    if b0 < v0.1 then
     (spec_l01Below k ((b3, v0.2.2), 8)).bind fun v1 =>
     (spec_Pass k ((b7, b5), v1.1)).bind fun v2 =>
     (spec_l01Once k ((b3, v1.2.2), 6)).bind fun v3 =>
     if v3.1 = true then
      (spec_l01Below k ((b3, v3.2.2), 16)).bind fun v4 =>
      (spec_l01Once k ((b3, v4.2.2), 2)).bind fun v5 =>
      (spec_Feel k (v2, (v4.1, v5.1))).bind fun v6 =>
      spec_l16Guard_L3 spec_Feel spec_Pass spec_l01Below spec_l01Once k ((wrap64 (b0 + 1)), v5.2.2.1, v5.2.2.2, b3, b4, v6.2, b6, v6.1, ())
     else
      spec_l16Guard_L3 spec_Feel spec_Pass spec_l01Below spec_l01Once k ((wrap64 (b0 + 1)), v3.2.2.1, v3.2.2.2, b3, b4, v2.2, b6, v2.1, ())
    else
     (spec_l01Once k ((b3, v0.2.2), 2)).bind fun v7 =>
     if v7.1 = true then
      some ((b7, 0), ((), v7.2.2))
     else
      some ((b7, b5), ((), v7.2.2))
def spec_l16Guard_ (spec_Feel : Nat → (List Int × Int) × Int × Bool → Option ((List Int × Int))) (spec_Pass : Nat → (List Int × Int) × Int → Option ((List Int × Int))) (spec_l01Below : Nat → (List Int × Int × Int) × Int → Option (Int × (Unit × Int × Int))) (spec_l01Once : Nat → (List Int × Int × Int) × Int → Option (Bool × (Unit × Int × Int))) (k : Nat) : (List Int × Int × Int) → Option ((List Int × Int) × (Unit × Int × Int))
  | (a0, a1, a2) =>
  spec_l16Guard_L3 spec_Feel spec_Pass spec_l01Below spec_l01Once k (0, a1, a2, a0, 0, 0, [], [], ())
noncomputable def g_spec_l16Guard : (List Int × Int × Int) → Option ((List Int × Int) × (Unit × Int × Int)) := evG (spec_l16Guard_ (fun _ => g_spec_Feel) (fun _ => g_spec_Pass) (fun _ => g_spec_l01Below) (fun _ => g_spec_l01Once))
theorem e_spec_l16Guard : ∀ x b, g_spec_l16Guard x = some b → ∃ k, spec_l16Guard_ (fun _ => g_spec_Feel) (fun _ => g_spec_Pass) (fun _ => g_spec_l01Below) (fun _ => g_spec_l01Once) k x = some b := evG_e _
/- spec_l16Any -/
def con_spec_l16Any (f : Nat → (List Int × Int × Int) → Option ((List Int × Int) × (Unit × Int × Int))) : Con := ⟨[.ptr [.sl (.int .u8), .int .i64, .int .i64] 152], 1, [.v true [.own (.int .i64) 3, .int .i64], .box [.keep, .int .i64, .int .i64] 152], f⟩
def spec_l16Any_ (spec_l01Below : Nat → (List Int × Int × Int) × Int → Option (Int × (Unit × Int × Int))) (spec_l01PickInt : Nat → (List Int × Int × Int) × List Int → Option (Int × (Unit × Int × Int))) (spec_l16Copy : Nat → (List Int × Int) → Option ((List Int × Int))) (spec_l16Guard : Nat → (List Int × Int × Int) → Option ((List Int × Int) × (Unit × Int × Int))) (k : Nat) : (List Int × Int × Int) → Option ((List Int × Int) × (Unit × Int × Int))
  | (a0, a1, a2) =>
  (spec_l16Guard k (a0, (a1, a2))).bind fun v0 =>
  (spec_l16Copy k v0.1).bind fun v1 =>
  (spec_l01Below k ((a0, v0.2.2), 12)).bind fun v2 =>
  if v2.1 = 0 then
   (spec_l01PickInt k ((a0, v2.2.2), [(-1), 0, 30, 31])).bind fun v3 =>
   if (((List.length v1.1 + List.length [v3.1] : Nat) : Int) * ((8 : Nat) : Int)) ≤ 140737488355328 then some (((v1.1 ++ [v3.1]), v1.2), ((), v3.2.2)) else none
  else
   if v2.1 = 1 then
    (spec_l01PickInt k ((a0, v2.2.2), [(-1), 15, 16])).bind fun v4 =>
    some ((v1.1, v4.1), ((), v4.2.2))
   else
    some (v1, ((), v2.2.2))
noncomputable def g_spec_l16Any : (List Int × Int × Int) → Option ((List Int × Int) × (Unit × Int × Int)) := spec_l16Any_ (fun _ => g_spec_l01Below) (fun _ => g_spec_l01PickInt) (fun _ => g_spec_l16Copy) (fun _ => g_spec_l16Guard) 0
theorem e_spec_l16Any : ∀ x b, g_spec_l16Any x = some b → ∃ k, spec_l16Any_ (fun _ => g_spec_l01Below) (fun _ => g_spec_l01PickInt) (fun _ => g_spec_l16Copy) (fun _ => g_spec_l16Guard) k x = some b := fun x b h => ⟨0, h⟩
/- spec_l03Rate -/
def con_spec_l03Rate (f : Nat → (List Int × Int × Int) → Option ((Int × Int × Int) × (Unit × Int × Int))) : Con := ⟨[.ptr [.sl (.int .u8), .int .i64, .int .i64] 152], 1, [.v true [.int .i64, .int .i64, .int .i64], .box [.keep, .int .i64, .int .i64] 152], f⟩
def spec_l03Rate_ (spec_l01Below : Nat → (List Int × Int × Int) × Int → Option (Int × (Unit × Int × Int))) (spec_l01PickInt : Nat → (List Int × Int × Int) × List Int → Option (Int × (Unit × Int × Int))) (k : Nat) : (List Int × Int × Int) → Option ((Int × Int × Int) × (Unit × Int × Int))
  | (a0, a1, a2) =>
  (spec_l01Below k ((a0, (a1, a2)), 60)).bind fun v0 =>
  (spec_l01Below k ((a0, v0.2.2), 40)).bind fun v1 =>
  (spec_l01Below k ((a0, v1.2.2), (wrap64 (1 + v1.1)))).bind fun v2 =>
  (spec_l01Below k ((a0, v2.2.2), 16)).bind fun v3 =>
  if v3.1 = 0 then
   (spec_l01PickInt k ((a0, v3.2.2), [(-1), 1000000, 1000001])).bind fun v4 =>
   some ((v4.1, ((wrap64 (1 + v1.1)), v2.1)), ((), v4.2.2))
  else
   if v3.1 = 1 then
    (spec_l01PickInt k ((a0, v3.2.2), [0, 1, 1000000, 1000001])).bind fun v5 =>
    some ((v0.1, (v5.1, v2.1)), ((), v5.2.2))
   else
    if v3.1 = 2 then
     (spec_l01PickInt k ((a0, v3.2.2), [(-1), (wrap64 (1 + v1.1))])).bind fun v6 =>
     some ((v0.1, ((wrap64 (1 + v1.1)), v6.1)), ((), v6.2.2))
    else
     some ((v0.1, ((wrap64 (1 + v1.1)), v2.1)), ((), v3.2.2))
noncomputable def g_spec_l03Rate : (List Int × Int × Int) → Option ((Int × Int × Int) × (Unit × Int × Int)) := spec_l03Rate_ (fun _ => g_spec_l01Below) (fun _ => g_spec_l01PickInt) 0
theorem e_spec_l03Rate : ∀ x b, g_spec_l03Rate x = some b → ∃ k, spec_l03Rate_ (fun _ => g_spec_l01Below) (fun _ => g_spec_l01PickInt) k x = some b := fun x b h => ⟨0, h⟩
/- spec_StepRate -/
def con_spec_StepRate (f : Nat → (Int × Int × Int) → Option ((Int × Int × Int) × Int)) : Con := ⟨[.agg [.int .i64, .int .i64, .int .i64]], 2, [.v true [.int .i64, .int .i64, .int .i64], .v false [.int .i64]], f⟩
def spec_StepRate_ (spec_RateOk : Nat → (Int × Int × Int) → Option (Bool)) (k : Nat) : (Int × Int × Int) → Option ((Int × Int × Int) × Int)
  | (a0, a1, a2) =>
  (spec_RateOk k (a0, (a1, a2))).bind fun v0 =>
  if v0 = true then
   if a1 = 0 then
    none
   else
    if a1 = 0 then
     none
    else
     some ((a0, (a1, (Int.tmod (wrap64 (a2 + a0)) a1))), (wrap64 (Int.tdiv (wrap64 (a2 + a0)) a1)))
  else
   some ((a0, (a1, a2)), 0)
noncomputable def g_spec_StepRate : (Int × Int × Int) → Option ((Int × Int × Int) × Int) := spec_StepRate_ (fun _ => g_spec_RateOk) 0
theorem e_spec_StepRate : ∀ x b, g_spec_StepRate x = some b → ∃ k, spec_StepRate_ (fun _ => g_spec_RateOk) k x = some b := fun x b h => ⟨0, h⟩
/- spec_Wants -/
def con_spec_Wants (f : Nat → (Int × Int × Int × Int × Int × Int × Int × Int) → Option (Int)) : Con := ⟨[.agg [.int .i64, .int .i64, .int .i64, .int .i64, .int .i64, .int .i64, .int .i64, .int .i64]], 1, [.v false [.int .i64]], f⟩
def spec_Wants_ (spec_PumpOk : Nat → (Int × Int × Int × Int × Int × Int × Int × Int) → Option (Bool)) (spec_StepRate : Nat → (Int × Int × Int) → Option ((Int × Int × Int) × Int)) (spec_l15Less : Nat → Int × Int → Option (Int)) (k : Nat) : (Int × Int × Int × Int × Int × Int × Int × Int) → Option (Int)
  | (a0, a1, a2, a3, a4, a5, a6, a7) =>
  (spec_PumpOk k (a0, (a1, (a2, (a3, (a4, (a5, (a6, a7)))))))).bind fun v0 =>
  if v0 = true then
   if a0 = 1 then
    (spec_StepRate k (a1, (a2, a3))).bind fun v1 =>
    if a0 = 1 then
     (spec_l15Less k (v1.2, a4)).bind fun v2 =>
     (spec_l15Less k (a5, 3)).bind fun v3 =>
     some (wrap64 (v2 + v3))
    else
     (spec_l15Less k (a5, 3)).bind fun v4 =>
     some (wrap64 (v1.2 + v4))
   else
    if a0 = 2 then
     (spec_StepRate k (a1, (a2, a3))).bind fun v5 =>
     if a0 = 1 then
      (spec_l15Less k (v5.2, a4)).bind fun v6 =>
      (spec_l15Less k (a5, 3)).bind fun v7 =>
      some (wrap64 (v6 + v7))
     else
      (spec_l15Less k (a5, 3)).bind fun v8 =>
      some (wrap64 (v5.2 + v8))
    else
     some 0
  else
   some 0
noncomputable def g_spec_Wants : (Int × Int × Int × Int × Int × Int × Int × Int) → Option (Int) := spec_Wants_ (fun _ => g_spec_PumpOk) (fun _ => g_spec_StepRate) (fun _ => g_spec_l15Less) 0
theorem e_spec_Wants : ∀ x b, g_spec_Wants x = some b → ∃ k, spec_Wants_ (fun _ => g_spec_PumpOk) (fun _ => g_spec_StepRate) (fun _ => g_spec_l15Less) k x = some b := fun x b h => ⟨0, h⟩
/- spec_Give -/
def con_spec_Give (f : Nat → (Int × Int × Int × Int × Int × Int × Int × Int) × Int → Option ((Int × Int × Int × Int × Int × Int × Int × Int))) : Con := ⟨[.agg [.int .i64, .int .i64, .int .i64, .int .i64, .int .i64, .int .i64, .int .i64, .int .i64], .c (.int .i64)], 1, [.v true [.int .i64, .int .i64, .int .i64, .int .i64, .int .i64, .int .i64, .int .i64, .int .i64]], f⟩
def spec_Give_ (spec_PumpOk : Nat → (Int × Int × Int × Int × Int × Int × Int × Int) → Option (Bool)) (spec_StepRate : Nat → (Int × Int × Int) → Option ((Int × Int × Int) × Int)) (spec_Wants : Nat → (Int × Int × Int × Int × Int × Int × Int × Int) → Option (Int)) (spec_l15Less : Nat → Int × Int → Option (Int)) (k : Nat) : (Int × Int × Int × Int × Int × Int × Int × Int) × Int → Option ((Int × Int × Int × Int × Int × Int × Int × Int))
  | ((a0, a1, a2, a3, a4, a5, a6, a7), a8) =>
  (spec_PumpOk k (a0, (a1, (a2, (a3, (a4, (a5, (a6, a7)))))))).bind fun v0 =>
  if v0 = true then
   if a0 = 1 then
    (spec_Wants k (a0, (a1, (a2, (a3, (a4, (a5, (a6, a7)))))))).bind fun v1 =>
    (spec_l15Less k (a8, v1)).bind fun v2 =>
    if v2 < 0 then
     (spec_StepRate k (a1, (a2, a3))).bind fun v3 =>
     (spec_l15Less k (a5, 3)).bind fun v4 =>
     (spec_l15Less k (0, v4)).bind fun v5 =>
     if a0 = 1 then
      (spec_l15Less k ((wrap64 (a6 + 0)), 1000000000000)).bind fun v6 =>
      if a0 = 1 then
       if (wrap64 (a4 - (wrap64 (0 - v5)))) = 0 then
        some (2, (1, (50, (0, ((wrap64 (a4 - (wrap64 (0 - v5)))), ((wrap64 (a5 - v5)), (v6, a7)))))))
       else
        some (a0, (v3.1.1, (v3.1.2.1, (v3.1.2.2, ((wrap64 (a4 - (wrap64 (0 - v5)))), ((wrap64 (a5 - v5)), (v6, a7)))))))
      else
       some (a0, (v3.1.1, (v3.1.2.1, (v3.1.2.2, ((wrap64 (a4 - (wrap64 (0 - v5)))), ((wrap64 (a5 - v5)), (v6, a7)))))))
     else
      (spec_l15Less k ((wrap64 (a6 + 0)), 1000000000000)).bind fun v7 =>
      if a0 = 1 then
       if a4 = 0 then
        some (2, (1, (50, (0, (a4, ((wrap64 (a5 - v5)), (v7, a7)))))))
       else
        some (a0, (v3.1.1, (v3.1.2.1, (v3.1.2.2, (a4, ((wrap64 (a5 - v5)), (v7, a7)))))))
      else
       some (a0, (v3.1.1, (v3.1.2.1, (v3.1.2.2, (a4, ((wrap64 (a5 - v5)), (v7, a7)))))))
    else
     (spec_StepRate k (a1, (a2, a3))).bind fun v8 =>
     (spec_l15Less k (a5, 3)).bind fun v9 =>
     (spec_l15Less k (v2, v9)).bind fun v10 =>
     if a0 = 1 then
      (spec_l15Less k ((wrap64 (a6 + v2)), 1000000000000)).bind fun v11 =>
      if a0 = 1 then
       if (wrap64 (a4 - (wrap64 (v2 - v10)))) = 0 then
        some (2, (1, (50, (0, ((wrap64 (a4 - (wrap64 (v2 - v10)))), ((wrap64 (a5 - v10)), (v11, a7)))))))
       else
        some (a0, (v8.1.1, (v8.1.2.1, (v8.1.2.2, ((wrap64 (a4 - (wrap64 (v2 - v10)))), ((wrap64 (a5 - v10)), (v11, a7)))))))
      else
       some (a0, (v8.1.1, (v8.1.2.1, (v8.1.2.2, ((wrap64 (a4 - (wrap64 (v2 - v10)))), ((wrap64 (a5 - v10)), (v11, a7)))))))
     else
      (spec_l15Less k ((wrap64 (a6 + v2)), 1000000000000)).bind fun v12 =>
      if a0 = 1 then
       if a4 = 0 then
        some (2, (1, (50, (0, (a4, ((wrap64 (a5 - v10)), (v12, a7)))))))
       else
        some (a0, (v8.1.1, (v8.1.2.1, (v8.1.2.2, (a4, ((wrap64 (a5 - v10)), (v12, a7)))))))
      else
       some (a0, (v8.1.1, (v8.1.2.1, (v8.1.2.2, (a4, ((wrap64 (a5 - v10)), (v12, a7)))))))
   else
    if a0 = 2 then
     (spec_Wants k (a0, (a1, (a2, (a3, (a4, (a5, (a6, a7)))))))).bind fun v13 =>
     (spec_l15Less k (a8, v13)).bind fun v14 =>
     if v14 < 0 then
      (spec_StepRate k (a1, (a2, a3))).bind fun v15 =>
      (spec_l15Less k (a5, 3)).bind fun v16 =>
      (spec_l15Less k (0, v16)).bind fun v17 =>
      if a0 = 1 then
       (spec_l15Less k ((wrap64 (a6 + 0)), 1000000000000)).bind fun v18 =>
       if a0 = 1 then
        if (wrap64 (a4 - (wrap64 (0 - v17)))) = 0 then
         some (2, (1, (50, (0, ((wrap64 (a4 - (wrap64 (0 - v17)))), ((wrap64 (a5 - v17)), (v18, a7)))))))
        else
         some (a0, (v15.1.1, (v15.1.2.1, (v15.1.2.2, ((wrap64 (a4 - (wrap64 (0 - v17)))), ((wrap64 (a5 - v17)), (v18, a7)))))))
       else
        some (a0, (v15.1.1, (v15.1.2.1, (v15.1.2.2, ((wrap64 (a4 - (wrap64 (0 - v17)))), ((wrap64 (a5 - v17)), (v18, a7)))))))
      else
       (spec_l15Less k ((wrap64 (a6 + 0)), 1000000000000)).bind fun v19 =>
       if a0 = 1 then
        if a4 = 0 then
         some (2, (1, (50, (0, (a4, ((wrap64 (a5 - v17)), (v19, a7)))))))
        else
         some (a0, (v15.1.1, (v15.1.2.1, (v15.1.2.2, (a4, ((wrap64 (a5 - v17)), (v19, a7)))))))
       else
        some (a0, (v15.1.1, (v15.1.2.1, (v15.1.2.2, (a4, ((wrap64 (a5 - v17)), (v19, a7)))))))
     else
      (spec_StepRate k (a1, (a2, a3))).bind fun v20 =>
      (spec_l15Less k (a5, 3)).bind fun v21 =>
      (spec_l15Less k (v14, v21)).bind fun v22 =>
      if a0 = 1 then
       (spec_l15Less k ((wrap64 (a6 + v14)), 1000000000000)).bind fun v23 =>
       if a0 = 1 then
        if (wrap64 (a4 - (wrap64 (v14 - v22)))) = 0 then
         some (2, (1, (50, (0, ((wrap64 (a4 - (wrap64 (v14 - v22)))), ((wrap64 (a5 - v22)), (v23, a7)))))))
        else
         some (a0, (v20.1.1, (v20.1.2.1, (v20.1.2.2, ((wrap64 (a4 - (wrap64 (v14 - v22)))), ((wrap64 (a5 - v22)), (v23, a7)))))))
       else
        some (a0, (v20.1.1, (v20.1.2.1, (v20.1.2.2, ((wrap64 (a4 - (wrap64 (v14 - v22)))), ((wrap64 (a5 - v22)), (v23, a7)))))))
      else
       (spec_l15Less k ((wrap64 (a6 + v14)), 1000000000000)).bind fun v24 =>
       if a0 = 1 then
        if a4 = 0 then
         some (2, (1, (50, (0, (a4, ((wrap64 (a5 - v22)), (v24, a7)))))))
        else
         some (a0, (v20.1.1, (v20.1.2.1, (v20.1.2.2, (a4, ((wrap64 (a5 - v22)), (v24, a7)))))))
       else
        some (a0, (v20.1.1, (v20.1.2.1, (v20.1.2.2, (a4, ((wrap64 (a5 - v22)), (v24, a7)))))))
    else
     some (a0, (a1, (a2, (a3, (a4, (a5, (a6, a7)))))))
  else
   some (a0, (a1, (a2, (a3, (a4, (a5, (a6, a7)))))))
noncomputable def g_spec_Give : (Int × Int × Int × Int × Int × Int × Int × Int) × Int → Option ((Int × Int × Int × Int × Int × Int × Int × Int)) := spec_Give_ (fun _ => g_spec_PumpOk) (fun _ => g_spec_StepRate) (fun _ => g_spec_Wants) (fun _ => g_spec_l15Less) 0
theorem e_spec_Give : ∀ x b, g_spec_Give x = some b → ∃ k, spec_Give_ (fun _ => g_spec_PumpOk) (fun _ => g_spec_StepRate) (fun _ => g_spec_Wants) (fun _ => g_spec_l15Less) k x = some b := fun x b h => ⟨0, h⟩
/- spec_Take -/
def con_spec_Take (f : Nat → (Int × Int × Int × Int × Int × Int × Int × Int) × (Int × Int × Int × Int) → Option ((Int × Int × Int × Int × Int × Int × Int × Int) × Bool)) : Con := ⟨[.agg [.int .i64, .int .i64, .int .i64, .int .i64, .int .i64, .int .i64, .int .i64, .int .i64], .agg [.int .i64, .int .i64, .int .i64, .int .i64]], 2, [.v true [.int .i64, .int .i64, .int .i64, .int .i64, .int .i64, .int .i64, .int .i64, .int .i64], .v false [.bool]], f⟩
def spec_Take_ (spec_OrderOk : Nat → (Int × Int × Int × Int) → Option (Bool)) (spec_PumpOk : Nat → (Int × Int × Int × Int × Int × Int × Int × Int) → Option (Bool)) (k : Nat) : (Int × Int × Int × Int × Int × Int × Int × Int) × (Int × Int × Int × Int) → Option ((Int × Int × Int × Int × Int × Int × Int × Int) × Bool)
  | ((a0, a1, a2, a3, a4, a5, a6, a7), (a8, a9, a10, a11)) =>
  (spec_PumpOk k (a0, (a1, (a2, (a3, (a4, (a5, (a6, a7)))))))).bind fun v0 =>
  if v0 = true then
   (spec_OrderOk k (a8, (a9, (a10, a11)))).bind fun v1 =>
   if v1 = true then
    if a8 = 1 then
     if a0 = 0 then
      some ((1, (a9, (a10, (0, (a11, (a5, (a6, a7))))))), true)
     else
      if a0 = 2 then
       some ((1, (a9, (a10, (0, (a11, (a5, (a6, a7))))))), true)
      else
       some ((a0, (a1, (a2, (a3, (a4, (a5, (a6, a7))))))), false)
    else
     if a8 = 2 then
      if a0 = 0 then
       some ((a0, (a1, (a2, (a3, (a4, (a5, (a6, a7))))))), false)
      else
       if a0 = 3 then
        some ((a0, (a1, (a2, (a3, (a4, (a5, (a6, a7))))))), false)
       else
        if 0 < a5 then
         some ((a0, (a1, (a2, (a3, (a4, (a5, (a6, a7))))))), false)
        else
         some ((a0, (a1, (a2, (a3, (a4, (a11, (a6, a7))))))), true)
     else
      if a8 = 3 then
       if a0 = 0 then
        some ((a0, (a1, (a2, (a3, (a4, (a5, (a6, a7))))))), false)
       else
        if a0 = 3 then
         some ((a0, (a1, (a2, (a3, (a4, (a5, (a6, a7))))))), false)
        else
         some ((3, (a1, (a2, (a3, (a4, (a5, (a6, a0))))))), true)
      else
       if a8 = 4 then
        if a0 = 3 then
         some ((a7, (a1, (a2, (a3, (a4, (a5, (a6, 0))))))), true)
        else
         some ((a0, (a1, (a2, (a3, (a4, (a5, (a6, a7))))))), false)
       else
        if a8 = 6 then
         some ((0, (a1, (a2, (a3, (0, (0, (a6, 0))))))), true)
        else
         some ((a0, (a1, (a2, (a3, (a4, (a5, (a6, a7))))))), false)
   else
    some ((a0, (a1, (a2, (a3, (a4, (a5, (a6, a7))))))), false)
  else
   some ((a0, (a1, (a2, (a3, (a4, (a5, (a6, a7))))))), false)
noncomputable def g_spec_Take : (Int × Int × Int × Int × Int × Int × Int × Int) × (Int × Int × Int × Int) → Option ((Int × Int × Int × Int × Int × Int × Int × Int) × Bool) := spec_Take_ (fun _ => g_spec_OrderOk) (fun _ => g_spec_PumpOk) 0
theorem e_spec_Take : ∀ x b, g_spec_Take x = some b → ∃ k, spec_Take_ (fun _ => g_spec_OrderOk) (fun _ => g_spec_PumpOk) k x = some b := fun x b h => ⟨0, h⟩
/- spec_PumpNew -/
def con_spec_PumpNew (f : Nat → Unit → Option ((Int × Int × Int × Int × Int × Int × Int × Int))) : Con := ⟨[], 1, [.v true [.int .i64, .int .i64, .int .i64, .int .i64, .int .i64, .int .i64, .int .i64, .int .i64]], f⟩
def spec_PumpNew_ (k : Nat) : Unit → Option ((Int × Int × Int × Int × Int × Int × Int × Int))
  | () =>
  some (0, (0, (1, (0, (0, (0, (0, 0)))))))
noncomputable def g_spec_PumpNew : Unit → Option ((Int × Int × Int × Int × Int × Int × Int × Int)) := spec_PumpNew_  0
theorem e_spec_PumpNew : ∀ x b, g_spec_PumpNew x = some b → ∃ k, spec_PumpNew_  k x = some b := fun x b h => ⟨0, h⟩
/- spec_l15Pump -/
def con_spec_l15Pump (f : Nat → (List Int × Int × Int) → Option ((Int × Int × Int × Int × Int × Int × Int × Int) × (Unit × Int × Int))) : Con := ⟨[.ptr [.sl (.int .u8), .int .i64, .int .i64] 152], 1, [.v true [.int .i64, .int .i64, .int .i64, .int .i64, .int .i64, .int .i64, .int .i64, .int .i64], .box [.keep, .int .i64, .int .i64] 152], f⟩
def spec_l15Pump_L3 (spec_Give : Nat → (Int × Int × Int × Int × Int × Int × Int × Int) × Int → Option ((Int × Int × Int × Int × Int × Int × Int × Int))) (spec_PumpNew : Nat → Unit → Option ((Int × Int × Int × Int × Int × Int × Int × Int))) (spec_Take : Nat → (Int × Int × Int × Int × Int × Int × Int × Int) × (Int × Int × Int × Int) → Option ((Int × Int × Int × Int × Int × Int × Int × Int) × Bool)) (spec_l01Below : Nat → (List Int × Int × Int) × Int → Option (Int × (Unit × Int × Int))) (spec_l01Once : Nat → (List Int × Int × Int) × Int → Option (Bool × (Unit × Int × Int))) (spec_l14Order : Nat → (List Int × Int × Int) → Option ((Int × Int × Int × Int) × (Unit × Int × Int))) : Nat → Int × Int × Int × List Int × Int × Int × Int × Int × Int × Int × Int × Int × Int × Int × Int × Int × Int × Int × Int × Int × Unit → Option ((Int × Int × Int × Int × Int × Int × Int × Int) × (Unit × Int × Int))
  | 0, _ => none
  | k + 1, (b0, b1, b2, b3, b4, b5, b6, b7, b8, b9, b10, b11, b12, b13, b14, b15, b16, b17, b18, b19, ()) =>
    (spec_l01Below k ((b3, (b1, b2)), 14)).bind fun v0 =>
    if b0 < v0.1 then
     (spec_l01Once k ((b3, v0.2.2), 3)).bind fun v1 =>
     if v1.1 = true then
      (spec_l14Order k (b3, v1.2.2)).bind fun v2 =>
      (spec_Take k ((b12, (b13, (b14, (b15, (b16, (b17, (b18, b19))))))), v2.1)).bind fun v3 =>
      spec_l15Pump_L3 spec_Give spec_PumpNew spec_Take spec_l01Below spec_l01Once spec_l14Order k ((wrap64 (b0 + 1)), v2.2.2.1, v2.2.2.2, b3, b4, b5, b6, b7, b8, b9, b10, b11, v3.1.1, v3.1.2.1, v3.1.2.2.1, v3.1.2.2.2.1, v3.1.2.2.2.2.1, v3.1.2.2.2.2.2.1, v3.1.2.2.2.2.2.2.1, v3.1.2.2.2.2.2.2.2, ())
     else
      (spec_l01Below k ((b3, v1.2.2), 8)).bind fun v4 =>
      (spec_Give k ((b12, (b13, (b14, (b15, (b16, (b17, (b18, b19))))))), v4.1)).bind fun v5 =>
      spec_l15Pump_L3 spec_Give spec_PumpNew spec_Take spec_l01Below spec_l01Once spec_l14Order k ((wrap64 (b0 + 1)), v4.2.2.1, v4.2.2.2, b3, b4, b5, b6, b7, b8, b9, b10, b11, v5.1, v5.2.1, v5.2.2.1, v5.2.2.2.1, v5.2.2.2.2.1, v5.2.2.2.2.2.1, v5.2.2.2.2.2.2.1, v5.2.2.2.2.2.2.2, ())
    else
     some ((b12, (b13, (b14, (b15, (b16, (b17, (b18, b19))))))), ((), v0.2.2))
def spec_l15Pump_ (spec_Give : Nat → (Int × Int × Int × Int × Int × Int × Int × Int) × Int → Option ((Int × Int × Int × Int × Int × Int × Int × Int))) (spec_PumpNew : Nat → Unit → Option ((Int × Int × Int × Int × Int × Int × Int × Int))) (spec_Take : Nat → (Int × Int × Int × Int × Int × Int × Int × Int) × (Int × Int × Int × Int) → Option ((Int × Int × Int × Int × Int × Int × Int × Int) × Bool)) (spec_l01Below : Nat → (List Int × Int × Int) × Int → Option (Int × (Unit × Int × Int))) (spec_l01Once : Nat → (List Int × Int × Int) × Int → Option (Bool × (Unit × Int × Int))) (spec_l14Order : Nat → (List Int × Int × Int) → Option ((Int × Int × Int × Int) × (Unit × Int × Int))) (k : Nat) : (List Int × Int × Int) → Option ((Int × Int × Int × Int × Int × Int × Int × Int) × (Unit × Int × Int))
  | (a0, a1, a2) =>
  (spec_PumpNew k ()).bind fun v0 =>
  spec_l15Pump_L3 spec_Give spec_PumpNew spec_Take spec_l01Below spec_l01Once spec_l14Order k (0, a1, a2, a0, 0, 0, 0, 0, 0, 0, 0, 0, v0.1, v0.2.1, v0.2.2.1, v0.2.2.2.1, v0.2.2.2.2.1, v0.2.2.2.2.2.1, v0.2.2.2.2.2.2.1, v0.2.2.2.2.2.2.2, ())
noncomputable def g_spec_l15Pump : (List Int × Int × Int) → Option ((Int × Int × Int × Int × Int × Int × Int × Int) × (Unit × Int × Int)) := evG (spec_l15Pump_ (fun _ => g_spec_Give) (fun _ => g_spec_PumpNew) (fun _ => g_spec_Take) (fun _ => g_spec_l01Below) (fun _ => g_spec_l01Once) (fun _ => g_spec_l14Order))
theorem e_spec_l15Pump : ∀ x b, g_spec_l15Pump x = some b → ∃ k, spec_l15Pump_ (fun _ => g_spec_Give) (fun _ => g_spec_PumpNew) (fun _ => g_spec_Take) (fun _ => g_spec_l01Below) (fun _ => g_spec_l01Once) (fun _ => g_spec_l14Order) k x = some b := evG_e _
/- spec_l15Any -/
def con_spec_l15Any (f : Nat → (List Int × Int × Int) → Option ((Int × Int × Int × Int × Int × Int × Int × Int) × (Unit × Int × Int))) : Con := ⟨[.ptr [.sl (.int .u8), .int .i64, .int .i64] 152], 1, [.v true [.int .i64, .int .i64, .int .i64, .int .i64, .int .i64, .int .i64, .int .i64, .int .i64], .box [.keep, .int .i64, .int .i64] 152], f⟩
def spec_l15Any_ (spec_l01Below : Nat → (List Int × Int × Int) × Int → Option (Int × (Unit × Int × Int))) (spec_l01PickInt : Nat → (List Int × Int × Int) × List Int → Option (Int × (Unit × Int × Int))) (spec_l03Rate : Nat → (List Int × Int × Int) → Option ((Int × Int × Int) × (Unit × Int × Int))) (spec_l15Pump : Nat → (List Int × Int × Int) → Option ((Int × Int × Int × Int × Int × Int × Int × Int) × (Unit × Int × Int))) (k : Nat) : (List Int × Int × Int) → Option ((Int × Int × Int × Int × Int × Int × Int × Int) × (Unit × Int × Int))
  | (a0, a1, a2) =>
  (spec_l15Pump k (a0, (a1, a2))).bind fun v0 =>
  (spec_l01Below k ((a0, v0.2.2), 16)).bind fun v1 =>
  if v1.1 = 0 then
   (spec_l01Below k ((a0, v1.2.2), 5)).bind fun v2 =>
   some ((v2.1, v0.1.2), ((), v2.2.2))
  else
   if v1.1 = 1 then
    (spec_l01PickInt k ((a0, v1.2.2), [(-1), 0, 1, 5000, 5001])).bind fun v3 =>
    some ((v0.1.1, (v0.1.2.1, (v0.1.2.2.1, (v0.1.2.2.2.1, (v3.1, v0.1.2.2.2.2.2))))), ((), v3.2.2))
   else
    if v1.1 = 2 then
     (spec_l01PickInt k ((a0, v1.2.2), [(-1), 0, 100, 101])).bind fun v4 =>
     some ((v0.1.1, (v0.1.2.1, (v0.1.2.2.1, (v0.1.2.2.2.1, (v0.1.2.2.2.2.1, (v4.1, v0.1.2.2.2.2.2.2)))))), ((), v4.2.2))
    else
     if v1.1 = 3 then
      (spec_l01PickInt k ((a0, v1.2.2), [(-1), 999999999999, 1000000000000, 1000000000001])).bind fun v5 =>
      some ((v0.1.1, (v0.1.2.1, (v0.1.2.2.1, (v0.1.2.2.2.1, (v0.1.2.2.2.2.1, (v0.1.2.2.2.2.2.1, (v5.1, v0.1.2.2.2.2.2.2.2))))))), ((), v5.2.2))
     else
      if v1.1 = 4 then
       (spec_l01Below k ((a0, v1.2.2), 5)).bind fun v6 =>
       some ((v0.1.1, (v0.1.2.1, (v0.1.2.2.1, (v0.1.2.2.2.1, (v0.1.2.2.2.2.1, (v0.1.2.2.2.2.2.1, (v0.1.2.2.2.2.2.2.1, v6.1))))))), ((), v6.2.2))
      else
       if v1.1 = 5 then
        (spec_l03Rate k (a0, v1.2.2)).bind fun v7 =>
        some ((v0.1.1, (v7.1.1, (v7.1.2.1, (v7.1.2.2, v0.1.2.2.2.2)))), ((), v7.2.2))
       else
        some (v0.1, ((), v1.2.2))
noncomputable def g_spec_l15Any : (List Int × Int × Int) → Option ((Int × Int × Int × Int × Int × Int × Int × Int) × (Unit × Int × Int)) := spec_l15Any_ (fun _ => g_spec_l01Below) (fun _ => g_spec_l01PickInt) (fun _ => g_spec_l03Rate) (fun _ => g_spec_l15Pump) 0
theorem e_spec_l15Any : ∀ x b, g_spec_l15Any x = some b → ∃ k, spec_l15Any_ (fun _ => g_spec_l01Below) (fun _ => g_spec_l01PickInt) (fun _ => g_spec_l03Rate) (fun _ => g_spec_l15Pump) k x = some b := fun x b h => ⟨0, h⟩
/- spec_l18Copy -/
def con_spec_l18Copy (f : Nat → (Int × Int × Int × Int × Int × Int × Int × Int × List Int × Int × Int × Bool × Int × Int × ByteArray × (List (Int × (Int × Int))) × Int) → Option ((Int × Int × Int × Int × Int × Int × Int × Int × List Int × Int × Int × Bool × Int × Int × ByteArray × (List (Int × (Int × Int))) × Int))) : Con := ⟨[.agg [.int .i64, .int .i64, .int .i64, .int .i64, .int .i64, .int .i64, .int .i64, .int .i64, .sl (.int .i64), .int .i64, .int .i64, .bool, .int .i64, .int .i64, .str, .sl (.pair (.int .i64) (.pair (.int .i64) (.int .i64))), .int .i64]], 1, [.v true [.int .i64, .int .i64, .int .i64, .int .i64, .int .i64, .int .i64, .int .i64, .int .i64, .own (.int .i64) 3, .int .i64, .int .i64, .bool, .int .i64, .int .i64, .str, .own (.pair (.int .i64) (.pair (.int .i64) (.int .i64))) 101, .int .i64]], f⟩
def spec_l18Copy_ (spec_l16Copy : Nat → (List Int × Int) → Option ((List Int × Int))) (k : Nat) : (Int × Int × Int × Int × Int × Int × Int × Int × List Int × Int × Int × Bool × Int × Int × ByteArray × (List (Int × (Int × Int))) × Int) → Option ((Int × Int × Int × Int × Int × Int × Int × Int × List Int × Int × Int × Bool × Int × Int × ByteArray × (List (Int × (Int × Int))) × Int))
  | (a0, a1, a2, a3, a4, a5, a6, a7, a8, a9, a10, a11, a12, a13, a14, a15, a16) =>
  (spec_l16Copy k (a8, a9)).bind fun v0 =>
  if (((List.length ([] : List (Int × (Int × Int))) + List.length a15 : Nat) : Int) * ((24 : Nat) : Int)) ≤ 140737488355328 then some (a0, (a1, (a2, (a3, (a4, (a5, (a6, (a7, (v0.1, (v0.2, (a10, (a11, (a12, (a13, (a14, ((([] : List (Int × (Int × Int))) ++ a15), a16)))))))))))))))) else none
noncomputable def g_spec_l18Copy : (Int × Int × Int × Int × Int × Int × Int × Int × List Int × Int × Int × Bool × Int × Int × ByteArray × (List (Int × (Int × Int))) × Int) → Option ((Int × Int × Int × Int × Int × Int × Int × Int × List Int × Int × Int × Bool × Int × Int × ByteArray × (List (Int × (Int × Int))) × Int)) := spec_l18Copy_ (fun _ => g_spec_l16Copy) 0
theorem e_spec_l18Copy : ∀ x b, g_spec_l18Copy x = some b → ∃ k, spec_l18Copy_ (fun _ => g_spec_l16Copy) k x = some b := fun x b h => ⟨0, h⟩
/- spec_Allow -/
def con_spec_Allow (f : Nat → (List Int × Int) × Int → Option (Int)) : Con := ⟨[.agg [.sl (.int .i64), .int .i64], .c (.int .i64)], 1, [.v false [.int .i64]], f⟩
def spec_Allow_ (spec_GuardOk : Nat → (List Int × Int) → Option (Bool)) (spec_RoomOf : Nat → (List Int × Int) → Option (Int)) (spec_l15Less : Nat → Int × Int → Option (Int)) (k : Nat) : (List Int × Int) × Int → Option (Int)
  | ((a0, a1), a2) =>
  (spec_GuardOk k (a0, a1)).bind fun v0 =>
  if v0 = true then
   if a1 = 0 then
    if a2 < 0 then
     some 0
    else
     (spec_RoomOf k (a0, a1)).bind fun v1 =>
     (spec_l15Less k (a2, v1)).bind fun v2 =>
     some v2
   else
    some 0
  else
   some 0
noncomputable def g_spec_Allow : (List Int × Int) × Int → Option (Int) := spec_Allow_ (fun _ => g_spec_GuardOk) (fun _ => g_spec_RoomOf) (fun _ => g_spec_l15Less) 0
theorem e_spec_Allow : ∀ x b, g_spec_Allow x = some b → ∃ k, spec_Allow_ (fun _ => g_spec_GuardOk) (fun _ => g_spec_RoomOf) (fun _ => g_spec_l15Less) k x = some b := fun x b h => ⟨0, h⟩
/- spec_InOk -/
def con_spec_InOk (f : Nat → (Int × ByteArray × ByteArray) → Option (Bool)) : Con := ⟨[.agg [.int .i64, .str, .str]], 1, [.v false [.bool]], f⟩
def spec_InOk_ (spec_SenseOk : Nat → Int → Option (Bool)) (k : Nat) : (Int × ByteArray × ByteArray) → Option (Bool)
  | (a0, a1, a2) =>
  (spec_SenseOk k a0).bind fun v0 =>
  if v0 = true then
   if ((ByteArray.size a1 : Nat) : Int) ≤ 20 then
    some (decide (((ByteArray.size a2 : Nat) : Int) ≤ 40))
   else
    some false
  else
   some false
noncomputable def g_spec_InOk : (Int × ByteArray × ByteArray) → Option (Bool) := spec_InOk_ (fun _ => g_spec_SenseOk) 0
theorem e_spec_InOk : ∀ x b, g_spec_InOk x = some b → ∃ k, spec_InOk_ (fun _ => g_spec_SenseOk) k x = some b := fun x b h => ⟨0, h⟩
/- spec_TickDevice -/
def con_spec_TickDevice (f : Nat → (Int × Int × Int × Int × Int × Int × Int × Int × List Int × Int × Int × Bool × Int × Int × ByteArray × (List (Int × (Int × Int))) × Int) × (Int × ByteArray × ByteArray) → Option ((Int × Int × Int × Int × Int × Int × Int × Int × List Int × Int × Int × Bool × Int × Int × ByteArray × (List (Int × (Int × Int))) × Int))) : Con := ⟨[.agg [.int .i64, .int .i64, .int .i64, .int .i64, .int .i64, .int .i64, .int .i64, .int .i64, .sl (.int .i64), .int .i64, .int .i64, .bool, .int .i64, .int .i64, .str, .sl (.pair (.int .i64) (.pair (.int .i64) (.int .i64))), .int .i64], .agg [.int .i64, .str, .str]], 1, [.v true [.int .i64, .int .i64, .int .i64, .int .i64, .int .i64, .int .i64, .int .i64, .int .i64, .own (.int .i64) 3, .int .i64, .int .i64, .bool, .int .i64, .int .i64, .str, .own (.pair (.int .i64) (.pair (.int .i64) (.int .i64))) 101, .int .i64]], f⟩
def spec_TickDevice_L13 (spec_Allow : Nat → (List Int × Int) × Int → Option (Int)) (spec_DeviceOk : Nat → (Int × Int × Int × Int × Int × Int × Int × Int × List Int × Int × Int × Bool × Int × Int × ByteArray × (List (Int × (Int × Int))) × Int) → Option (Bool)) (spec_Feel : Nat → (List Int × Int) × Int × Bool → Option ((List Int × Int))) (spec_Give : Nat → (Int × Int × Int × Int × Int × Int × Int × Int) × Int → Option ((Int × Int × Int × Int × Int × Int × Int × Int))) (spec_InOk : Nat → (Int × ByteArray × ByteArray) → Option (Bool)) (spec_Pass : Nat → (List Int × Int) × Int → Option ((List Int × Int))) (spec_PressAll : Nat → (Int × Bool × Int × Int × ByteArray) × ByteArray → Option ((Int × Bool × Int × Int × ByteArray) × ((List (Int × (Int × (Int × Int))))))) (spec_ReadOrder : Nat → ByteArray → Option ((Int × Int × Int × Int) × Bool)) (spec_Take : Nat → (Int × Int × Int × Int × Int × Int × Int × Int) × (Int × Int × Int × Int) → Option ((Int × Int × Int × Int × Int × Int × Int × Int) × Bool)) (spec_Wants : Nat → (Int × Int × Int × Int × Int × Int × Int × Int) → Option (Int)) (spec_l18Copy : Nat → (Int × Int × Int × Int × Int × Int × Int × Int × List Int × Int × Int × Bool × Int × Int × ByteArray × (List (Int × (Int × Int))) × Int) → Option ((Int × Int × Int × Int × Int × Int × Int × Int × List Int × Int × Int × Bool × Int × Int × ByteArray × (List (Int × (Int × Int))) × Int))) : Nat → Bool × Int × List Int × (List (Int × (Int × Int))) × Int × Int × Int × Int × Int × Int × Int × Int × Int × Int × Bool × Int × Int × ByteArray × Int × Int × ByteArray × ByteArray × Int × Int × Int × Int × Int × Int × Int × Int × Int × Int × Bool × Int × Int × ByteArray × Int × Int × Int × Int × Int × Int × Int × Int × Int × Int × Int × Bool × Int × Int × ByteArray × Int × (List (Int × (Int × (Int × Int)))) × List Int × List Int × List Int × (List (Int × (Int × Int))) × Unit → Option ((Int × Int × Int × Int × Int × Int × Int × Int × List Int × Int × Int × Bool × Int × Int × ByteArray × (List (Int × (Int × Int))) × Int))
  | 0, _ => none
  | k + 1, (b0, b1, b2, b3, b4, b5, b6, b7, b8, b9, b10, b11, b12, b13, b14, b15, b16, b17, b18, b19, b20, b21, b22, b23, b24, b25, b26, b27, b28, b29, b30, b31, b32, b33, b34, b35, b36, b37, b38, b39, b40, b41, b42, b43, b44, b45, b46, b47, b48, b49, b50, b51, b52, b53, b54, b55, b56, ()) =>
    if b1 < ((List.length b52 : Nat) : Int) then
     if 0 ≤ b1 then
      if b1 < ((List.length b52 : Nat) : Int) then
       if (List.getD b52 (Int.toNat b1) (0, (0, (0, 0)))).1 = 5 then
        spec_TickDevice_L13 spec_Allow spec_DeviceOk spec_Feel spec_Give spec_InOk spec_Pass spec_PressAll spec_ReadOrder spec_Take spec_Wants spec_l18Copy k (true, (wrap64 (b1 + 1)), b2, b3, b4, b5, b6, b7, b8, b9, b10, b11, b12, b13, b14, b15, b16, b17, b18, b19, b20, b21, b22, b23, b24, b25, b26, b27, b28, b29, b30, b31, b32, b33, b34, b35, b36, b37, b38, b39, b40, b41, b42, b43, b44, b45, b46, b47, b48, b49, b50, b51, b52, b53, b54, b55, b56, ())
       else
        if 0 ≤ b1 then
         if b1 < ((List.length b52 : Nat) : Int) then (spec_Take k ((b37, (b38, (b39, (b40, (b41, (b42, (b43, b44))))))), (List.getD b52 (Int.toNat b1) (0, (0, (0, 0)))))).bind fun v0 =>
          if v0.2 = true then
           spec_TickDevice_L13 spec_Allow spec_DeviceOk spec_Feel spec_Give spec_InOk spec_Pass spec_PressAll spec_ReadOrder spec_Take spec_Wants spec_l18Copy k (b0, (wrap64 (b1 + 1)), b2, b3, b4, b5, b6, b7, b8, b9, b10, b11, b12, b13, b14, b15, b16, b17, b18, b19, b20, b21, b22, b23, b24, b25, b26, b27, b28, b29, b30, b31, b32, b33, b34, b35, b36, v0.1.1, v0.1.2.1, v0.1.2.2.1, v0.1.2.2.2.1, v0.1.2.2.2.2.1, v0.1.2.2.2.2.2.1, v0.1.2.2.2.2.2.2.1, v0.1.2.2.2.2.2.2.2, b45, b46, b47, b48, b49, b50, b51, b52, b53, b54, b55, b56, ())
          else
           spec_TickDevice_L13 spec_Allow spec_DeviceOk spec_Feel spec_Give spec_InOk spec_Pass spec_PressAll spec_ReadOrder spec_Take spec_Wants spec_l18Copy k (b0, (wrap64 (b1 + 1)), b2, b3, b4, b5, b6, b7, b8, b9, b10, b11, b12, b13, b14, b15, b16, b17, b18, b19, b20, b21, b22, b23, b24, b25, b26, b27, b28, b29, b30, b31, b32, b33, b34, b35, b36, v0.1.1, v0.1.2.1, v0.1.2.2.1, v0.1.2.2.2.1, v0.1.2.2.2.2.1, v0.1.2.2.2.2.2.1, v0.1.2.2.2.2.2.2.1, v0.1.2.2.2.2.2.2.2, b45, b46, b47, b48, b49, b50, (wrap64 (b51 + 1)), b52, b53, b54, b55, b56, ()) else none
        else
         none
      else
       none
     else
      none
    else
     (spec_Feel k ((b2, b12), (b19, b0))).bind fun v1 =>
     (spec_Wants k (b37, (b38, (b39, (b40, (b41, (b42, (b43, b44)))))))).bind fun v2 =>
     (spec_Allow k (v1, v2)).bind fun v3 =>
     if v1.2 = 0 then
      (spec_Give k ((b37, (b38, (b39, (b40, (b41, (b42, (b43, b44))))))), v3)).bind fun v4 =>
      (spec_Pass k (v1, v3)).bind fun v5 =>
      if (((List.length b56 + List.length [(v3, (v5.2, v4.1))] : Nat) : Int) * ((24 : Nat) : Int)) ≤ 140737488355328 then some (v4.1, (v4.2.1, (v4.2.2.1, (v4.2.2.2.1, (v4.2.2.2.2.1, (v4.2.2.2.2.2.1, (v4.2.2.2.2.2.2.1, (v4.2.2.2.2.2.2.2, (v5.1, (v5.2, (b46, (b47, (b48, (b49, (b50, ((b56 ++ [(v3, (v5.2, v4.1))]), b51)))))))))))))))) else none
     else
      (spec_Pass k (v1, v3)).bind fun v6 =>
      if (((List.length b56 + List.length [(v3, (v6.2, b37))] : Nat) : Int) * ((24 : Nat) : Int)) ≤ 140737488355328 then some (b37, (b38, (b39, (b40, (b41, (b42, (b43, (b44, (v6.1, (v6.2, (b46, (b47, (b48, (b49, (b50, ((b56 ++ [(v3, (v6.2, b37))]), b51)))))))))))))))) else none
def spec_TickDevice_ (spec_Allow : Nat → (List Int × Int) × Int → Option (Int)) (spec_DeviceOk : Nat → (Int × Int × Int × Int × Int × Int × Int × Int × List Int × Int × Int × Bool × Int × Int × ByteArray × (List (Int × (Int × Int))) × Int) → Option (Bool)) (spec_Feel : Nat → (List Int × Int) × Int × Bool → Option ((List Int × Int))) (spec_Give : Nat → (Int × Int × Int × Int × Int × Int × Int × Int) × Int → Option ((Int × Int × Int × Int × Int × Int × Int × Int))) (spec_InOk : Nat → (Int × ByteArray × ByteArray) → Option (Bool)) (spec_Pass : Nat → (List Int × Int) × Int → Option ((List Int × Int))) (spec_PressAll : Nat → (Int × Bool × Int × Int × ByteArray) × ByteArray → Option ((Int × Bool × Int × Int × ByteArray) × ((List (Int × (Int × (Int × Int))))))) (spec_ReadOrder : Nat → ByteArray → Option ((Int × Int × Int × Int) × Bool)) (spec_Take : Nat → (Int × Int × Int × Int × Int × Int × Int × Int) × (Int × Int × Int × Int) → Option ((Int × Int × Int × Int × Int × Int × Int × Int) × Bool)) (spec_Wants : Nat → (Int × Int × Int × Int × Int × Int × Int × Int) → Option (Int)) (spec_l18Copy : Nat → (Int × Int × Int × Int × Int × Int × Int × Int × List Int × Int × Int × Bool × Int × Int × ByteArray × (List (Int × (Int × Int))) × Int) → Option ((Int × Int × Int × Int × Int × Int × Int × Int × List Int × Int × Int × Bool × Int × Int × ByteArray × (List (Int × (Int × Int))) × Int))) (k : Nat) : (Int × Int × Int × Int × Int × Int × Int × Int × List Int × Int × Int × Bool × Int × Int × ByteArray × (List (Int × (Int × Int))) × Int) × (Int × ByteArray × ByteArray) → Option ((Int × Int × Int × Int × Int × Int × Int × Int × List Int × Int × Int × Bool × Int × Int × ByteArray × (List (Int × (Int × Int))) × Int))
  | ((a0, a1, a2, a3, a4, a5, a6, a7, a8, a9, a10, a11, a12, a13, a14, a15, a16), (a17, a18, a19)) =>
  (spec_l18Copy k (a0, (a1, (a2, (a3, (a4, (a5, (a6, (a7, (a8, (a9, (a10, (a11, (a12, (a13, (a14, (a15, a16))))))))))))))))).bind fun v0 =>
  (spec_DeviceOk k (a0, (a1, (a2, (a3, (a4, (a5, (a6, (a7, (a8, (a9, (a10, (a11, (a12, (a13, (a14, (a15, a16))))))))))))))))).bind fun v1 =>
  if v1 = true then
   (spec_InOk k (a17, (a18, a19))).bind fun v2 =>
   if v2 = true then
    if ((List.length a15 : Nat) : Int) = 200 then
     some v0
    else
     if 999999900 < a16 then
      some v0
     else
      (spec_PressAll k ((a10, (a11, (a12, (a13, a14)))), a18)).bind fun v3 =>
      if a19 = (⟨#[]⟩ : ByteArray) then
       spec_TickDevice_L13 spec_Allow spec_DeviceOk spec_Feel spec_Give spec_InOk spec_Pass spec_PressAll spec_ReadOrder spec_Take spec_Wants spec_l18Copy k (false, 0, a8, a15, a0, a1, a2, a3, a4, a5, a6, a7, a9, a10, a11, a12, a13, a14, a16, a17, a18, a19, 0, 0, 0, 0, 0, 0, 0, 0, 0, 0, false, 0, 0, (⟨#[]⟩ : ByteArray), 0, v0.1, v0.2.1, v0.2.2.1, v0.2.2.2.1, v0.2.2.2.2.1, v0.2.2.2.2.2.1, v0.2.2.2.2.2.2.1, v0.2.2.2.2.2.2.2.1, v0.2.2.2.2.2.2.2.2.2.1, v3.1.1, v3.1.2.1, v3.1.2.2.1, v3.1.2.2.2.1, v3.1.2.2.2.2, v0.2.2.2.2.2.2.2.2.2.2.2.2.2.2.2.2, v3.2, [], [], v0.2.2.2.2.2.2.2.2.1, v0.2.2.2.2.2.2.2.2.2.2.2.2.2.2.2.1, ())
      else
       (spec_ReadOrder k a19).bind fun v4 =>
       if v4.2 = true then
        if (((List.length v3.2 + List.length [v4.1] : Nat) : Int) * ((32 : Nat) : Int)) ≤ 140737488355328 then spec_TickDevice_L13 spec_Allow spec_DeviceOk spec_Feel spec_Give spec_InOk spec_Pass spec_PressAll spec_ReadOrder spec_Take spec_Wants spec_l18Copy k (false, 0, a8, a15, a0, a1, a2, a3, a4, a5, a6, a7, a9, a10, a11, a12, a13, a14, a16, a17, a18, a19, 0, 0, 0, 0, 0, 0, 0, 0, 0, 0, false, 0, 0, (⟨#[]⟩ : ByteArray), 0, v0.1, v0.2.1, v0.2.2.1, v0.2.2.2.1, v0.2.2.2.2.1, v0.2.2.2.2.2.1, v0.2.2.2.2.2.2.1, v0.2.2.2.2.2.2.2.1, v0.2.2.2.2.2.2.2.2.2.1, v3.1.1, v3.1.2.1, v3.1.2.2.1, v3.1.2.2.2.1, v3.1.2.2.2.2, v0.2.2.2.2.2.2.2.2.2.2.2.2.2.2.2.2, (v3.2 ++ [v4.1]), [], [], v0.2.2.2.2.2.2.2.2.1, v0.2.2.2.2.2.2.2.2.2.2.2.2.2.2.2.1, ()) else none
       else
        spec_TickDevice_L13 spec_Allow spec_DeviceOk spec_Feel spec_Give spec_InOk spec_Pass spec_PressAll spec_ReadOrder spec_Take spec_Wants spec_l18Copy k (false, 0, a8, a15, a0, a1, a2, a3, a4, a5, a6, a7, a9, a10, a11, a12, a13, a14, a16, a17, a18, a19, 0, 0, 0, 0, 0, 0, 0, 0, 0, 0, false, 0, 0, (⟨#[]⟩ : ByteArray), 0, v0.1, v0.2.1, v0.2.2.1, v0.2.2.2.1, v0.2.2.2.2.1, v0.2.2.2.2.2.1, v0.2.2.2.2.2.2.1, v0.2.2.2.2.2.2.2.1, v0.2.2.2.2.2.2.2.2.2.1, v3.1.1, v3.1.2.1, v3.1.2.2.1, v3.1.2.2.2.1, v3.1.2.2.2.2, (wrap64 (v0.2.2.2.2.2.2.2.2.2.2.2.2.2.2.2.2 + 1)), v3.2, [], [], v0.2.2.2.2.2.2.2.2.1, v0.2.2.2.2.2.2.2.2.2.2.2.2.2.2.2.1, ())
   else
    some v0
  else
   some v0
noncomputable def g_spec_TickDevice : (Int × Int × Int × Int × Int × Int × Int × Int × List Int × Int × Int × Bool × Int × Int × ByteArray × (List (Int × (Int × Int))) × Int) × (Int × ByteArray × ByteArray) → Option ((Int × Int × Int × Int × Int × Int × Int × Int × List Int × Int × Int × Bool × Int × Int × ByteArray × (List (Int × (Int × Int))) × Int)) := evG (spec_TickDevice_ (fun _ => g_spec_Allow) (fun _ => g_spec_DeviceOk) (fun _ => g_spec_Feel) (fun _ => g_spec_Give) (fun _ => g_spec_InOk) (fun _ => g_spec_Pass) (fun _ => g_spec_PressAll) (fun _ => g_spec_ReadOrder) (fun _ => g_spec_Take) (fun _ => g_spec_Wants) (fun _ => g_spec_l18Copy))
theorem e_spec_TickDevice : ∀ x b, g_spec_TickDevice x = some b → ∃ k, spec_TickDevice_ (fun _ => g_spec_Allow) (fun _ => g_spec_DeviceOk) (fun _ => g_spec_Feel) (fun _ => g_spec_Give) (fun _ => g_spec_InOk) (fun _ => g_spec_Pass) (fun _ => g_spec_PressAll) (fun _ => g_spec_ReadOrder) (fun _ => g_spec_Take) (fun _ => g_spec_Wants) (fun _ => g_spec_l18Copy) k x = some b := evG_e _
/- spec_DeviceNew -/
def con_spec_DeviceNew (f : Nat → Unit → Option ((Int × Int × Int × Int × Int × Int × Int × Int × List Int × Int × Int × Bool × Int × Int × ByteArray × (List (Int × (Int × Int))) × Int))) : Con := ⟨[], 1, [.v true [.int .i64, .int .i64, .int .i64, .int .i64, .int .i64, .int .i64, .int .i64, .int .i64, .own (.int .i64) 3, .int .i64, .int .i64, .bool, .int .i64, .int .i64, .str, .own (.pair (.int .i64) (.pair (.int .i64) (.int .i64))) 101, .int .i64]], f⟩
def spec_DeviceNew_ (spec_MenuNew : Nat → Unit → Option ((Int × Bool × Int × Int × ByteArray))) (spec_PumpNew : Nat → Unit → Option ((Int × Int × Int × Int × Int × Int × Int × Int))) (k : Nat) : Unit → Option ((Int × Int × Int × Int × Int × Int × Int × Int × List Int × Int × Int × Bool × Int × Int × ByteArray × (List (Int × (Int × Int))) × Int))
  | () =>
  (spec_PumpNew k ()).bind fun v0 =>
  (spec_MenuNew k ()).bind fun v1 =>
  some (v0.1, (v0.2.1, (v0.2.2.1, (v0.2.2.2.1, (v0.2.2.2.2.1, (v0.2.2.2.2.2.1, (v0.2.2.2.2.2.2.1, (v0.2.2.2.2.2.2.2, (([] : List Int), (0, (v1.1, (v1.2.1, (v1.2.2.1, (v1.2.2.2.1, (v1.2.2.2.2, (([] : List (Int × (Int × Int))), 0))))))))))))))))
noncomputable def g_spec_DeviceNew : Unit → Option ((Int × Int × Int × Int × Int × Int × Int × Int × List Int × Int × Int × Bool × Int × Int × ByteArray × (List (Int × (Int × Int))) × Int)) := spec_DeviceNew_ (fun _ => g_spec_MenuNew) (fun _ => g_spec_PumpNew) 0
theorem e_spec_DeviceNew : ∀ x b, g_spec_DeviceNew x = some b → ∃ k, spec_DeviceNew_ (fun _ => g_spec_MenuNew) (fun _ => g_spec_PumpNew) k x = some b := fun x b h => ⟨0, h⟩
/- spec_RunDevice -/
def con_spec_RunDevice (f : Nat → ((List (Int × (ByteArray × ByteArray)))) → Option ((Int × Int × Int × Int × Int × Int × Int × Int × List Int × Int × Int × Bool × Int × Int × ByteArray × (List (Int × (Int × Int))) × Int) × Bool)) : Con := ⟨[.c (.sl (.pair (.int .i64) (.pair .str .str)))], 2, [.v true [.int .i64, .int .i64, .int .i64, .int .i64, .int .i64, .int .i64, .int .i64, .int .i64, .own (.int .i64) 3, .int .i64, .int .i64, .bool, .int .i64, .int .i64, .str, .own (.pair (.int .i64) (.pair (.int .i64) (.int .i64))) 101, .int .i64], .v false [.bool]], f⟩
mutual
def spec_RunDevice_L3 (spec_DeviceNew : Nat → Unit → Option ((Int × Int × Int × Int × Int × Int × Int × Int × List Int × Int × Int × Bool × Int × Int × ByteArray × (List (Int × (Int × Int))) × Int))) (spec_InOk : Nat → (Int × ByteArray × ByteArray) → Option (Bool)) (spec_TickDevice : Nat → (Int × Int × Int × Int × Int × Int × Int × Int × List Int × Int × Int × Bool × Int × Int × ByteArray × (List (Int × (Int × Int))) × Int) × (Int × ByteArray × ByteArray) → Option ((Int × Int × Int × Int × Int × Int × Int × Int × List Int × Int × Int × Bool × Int × Int × ByteArray × (List (Int × (Int × Int))) × Int))) : Nat → Bool × Int × (List (Int × (ByteArray × ByteArray))) × Int × Int × Int × Int × Int × Int × Int × Int × Int × Int × Bool × Int × Int × ByteArray × Int × List Int × List Int × Unit → Option ((Int × Int × Int × Int × Int × Int × Int × Int × List Int × Int × Int × Bool × Int × Int × ByteArray × (List (Int × (Int × Int))) × Int) × Bool)
  | 0, _ => none
  | k + 1, (b0, b1, b2, b3, b4, b5, b6, b7, b8, b9, b10, b11, b12, b13, b14, b15, b16, b17, b18, b19, ()) =>
    if b1 < ((List.length b2 : Nat) : Int) then
     if b0 = true then
      if 0 ≤ b1 then
       if b1 < ((List.length b2 : Nat) : Int) then (spec_InOk k (List.getD b2 (Int.toNat b1) (0, ((⟨#[]⟩ : ByteArray), (⟨#[]⟩ : ByteArray))))).bind fun v0 =>
        spec_RunDevice_L3 spec_DeviceNew spec_InOk spec_TickDevice k (v0, (wrap64 (b1 + 1)), b2, b3, b4, b5, b6, b7, b8, b9, b10, b11, b12, b13, b14, b15, b16, b17, b18, b19, ()) else none
      else
       none
     else
      if b0 = true then
       (spec_DeviceNew k ()).bind fun v1 =>
       spec_RunDevice_L10 spec_DeviceNew spec_InOk spec_TickDevice k (0, b2, b3, b4, b5, b6, b7, b8, b9, b10, b11, b12, b13, b14, b15, b16, b17, v1.1, v1.2.1, v1.2.2.1, v1.2.2.2.1, v1.2.2.2.2.1, v1.2.2.2.2.2.1, v1.2.2.2.2.2.2.1, v1.2.2.2.2.2.2.2.1, v1.2.2.2.2.2.2.2.2.2.1, v1.2.2.2.2.2.2.2.2.2.2.1, v1.2.2.2.2.2.2.2.2.2.2.2.1, v1.2.2.2.2.2.2.2.2.2.2.2.2.1, v1.2.2.2.2.2.2.2.2.2.2.2.2.2.1, v1.2.2.2.2.2.2.2.2.2.2.2.2.2.2.1, v1.2.2.2.2.2.2.2.2.2.2.2.2.2.2.2.2, b18, b19, v1.2.2.2.2.2.2.2.2.1, v1.2.2.2.2.2.2.2.2.2.2.2.2.2.2.2.1, ())
      else
       some ((0, (0, (0, (0, (0, (0, (0, (0, (([] : List Int), (0, (0, (false, (0, (0, ((⟨#[]⟩ : ByteArray), (([] : List (Int × (Int × Int))), 0)))))))))))))))), false)
    else
     if b0 = true then
      (spec_DeviceNew k ()).bind fun v2 =>
      spec_RunDevice_L10 spec_DeviceNew spec_InOk spec_TickDevice k (0, b2, b3, b4, b5, b6, b7, b8, b9, b10, b11, b12, b13, b14, b15, b16, b17, v2.1, v2.2.1, v2.2.2.1, v2.2.2.2.1, v2.2.2.2.2.1, v2.2.2.2.2.2.1, v2.2.2.2.2.2.2.1, v2.2.2.2.2.2.2.2.1, v2.2.2.2.2.2.2.2.2.2.1, v2.2.2.2.2.2.2.2.2.2.2.1, v2.2.2.2.2.2.2.2.2.2.2.2.1, v2.2.2.2.2.2.2.2.2.2.2.2.2.1, v2.2.2.2.2.2.2.2.2.2.2.2.2.2.1, v2.2.2.2.2.2.2.2.2.2.2.2.2.2.2.1, v2.2.2.2.2.2.2.2.2.2.2.2.2.2.2.2.2, b18, b19, v2.2.2.2.2.2.2.2.2.1, v2.2.2.2.2.2.2.2.2.2.2.2.2.2.2.2.1, ())
     else
      some ((0, (0, (0, (0, (0, (0, (0, (0, (([] : List Int), (0, (0, (false, (0, (0, ((⟨#[]⟩ : ByteArray), (([] : List (Int × (Int × Int))), 0)))))))))))))))), false)
def spec_RunDevice_L10 (spec_DeviceNew : Nat → Unit → Option ((Int × Int × Int × Int × Int × Int × Int × Int × List Int × Int × Int × Bool × Int × Int × ByteArray × (List (Int × (Int × Int))) × Int))) (spec_InOk : Nat → (Int × ByteArray × ByteArray) → Option (Bool)) (spec_TickDevice : Nat → (Int × Int × Int × Int × Int × Int × Int × Int × List Int × Int × Int × Bool × Int × Int × ByteArray × (List (Int × (Int × Int))) × Int) × (Int × ByteArray × ByteArray) → Option ((Int × Int × Int × Int × Int × Int × Int × Int × List Int × Int × Int × Bool × Int × Int × ByteArray × (List (Int × (Int × Int))) × Int))) : Nat → Int × (List (Int × (ByteArray × ByteArray))) × Int × Int × Int × Int × Int × Int × Int × Int × Int × Int × Bool × Int × Int × ByteArray × Int × Int × Int × Int × Int × Int × Int × Int × Int × Int × Int × Bool × Int × Int × ByteArray × Int × List Int × List Int × List Int × (List (Int × (Int × Int))) × Unit → Option ((Int × Int × Int × Int × Int × Int × Int × Int × List Int × Int × Int × Bool × Int × Int × ByteArray × (List (Int × (Int × Int))) × Int) × Bool)
  | 0, _ => none
  | k + 1, (b0, b1, b2, b3, b4, b5, b6, b7, b8, b9, b10, b11, b12, b13, b14, b15, b16, b17, b18, b19, b20, b21, b22, b23, b24, b25, b26, b27, b28, b29, b30, b31, b32, b33, b34, b35, ()) =>
    if b0 < ((List.length b1 : Nat) : Int) then
     if 0 ≤ b0 then
      if b0 < ((List.length b1 : Nat) : Int) then (spec_TickDevice k ((b17, (b18, (b19, (b20, (b21, (b22, (b23, (b24, (b34, (b25, (b26, (b27, (b28, (b29, (b30, (b35, b31)))))))))))))))), (List.getD b1 (Int.toNat b0) (0, ((⟨#[]⟩ : ByteArray), (⟨#[]⟩ : ByteArray)))))).bind fun v0 =>
       spec_RunDevice_L10 spec_DeviceNew spec_InOk spec_TickDevice k ((wrap64 (b0 + 1)), b1, b2, b3, b4, b5, b6, b7, b8, b9, b10, b11, b12, b13, b14, b15, b16, v0.1, v0.2.1, v0.2.2.1, v0.2.2.2.1, v0.2.2.2.2.1, v0.2.2.2.2.2.1, v0.2.2.2.2.2.2.1, v0.2.2.2.2.2.2.2.1, v0.2.2.2.2.2.2.2.2.2.1, v0.2.2.2.2.2.2.2.2.2.2.1, v0.2.2.2.2.2.2.2.2.2.2.2.1, v0.2.2.2.2.2.2.2.2.2.2.2.2.1, v0.2.2.2.2.2.2.2.2.2.2.2.2.2.1, v0.2.2.2.2.2.2.2.2.2.2.2.2.2.2.1, v0.2.2.2.2.2.2.2.2.2.2.2.2.2.2.2.2, b32, b33, v0.2.2.2.2.2.2.2.2.1, v0.2.2.2.2.2.2.2.2.2.2.2.2.2.2.2.1, ()) else none
     else
      none
    else
     some ((b17, (b18, (b19, (b20, (b21, (b22, (b23, (b24, (b34, (b25, (b26, (b27, (b28, (b29, (b30, (b35, b31)))))))))))))))), true)
end
def spec_RunDevice_ (spec_DeviceNew : Nat → Unit → Option ((Int × Int × Int × Int × Int × Int × Int × Int × List Int × Int × Int × Bool × Int × Int × ByteArray × (List (Int × (Int × Int))) × Int))) (spec_InOk : Nat → (Int × ByteArray × ByteArray) → Option (Bool)) (spec_TickDevice : Nat → (Int × Int × Int × Int × Int × Int × Int × Int × List Int × Int × Int × Bool × Int × Int × ByteArray × (List (Int × (Int × Int))) × Int) × (Int × ByteArray × ByteArray) → Option ((Int × Int × Int × Int × Int × Int × Int × Int × List Int × Int × Int × Bool × Int × Int × ByteArray × (List (Int × (Int × Int))) × Int))) (k : Nat) : ((List (Int × (ByteArray × ByteArray)))) → Option ((Int × Int × Int × Int × Int × Int × Int × Int × List Int × Int × Int × Bool × Int × Int × ByteArray × (List (Int × (Int × Int))) × Int) × Bool)
  | a0 =>
  spec_RunDevice_L3 spec_DeviceNew spec_InOk spec_TickDevice k ((decide (((List.length a0 : Nat) : Int) ≤ 150)), 0, a0, 0, 0, 0, 0, 0, 0, 0, 0, 0, 0, false, 0, 0, (⟨#[]⟩ : ByteArray), 0, [], [], ())
noncomputable def g_spec_RunDevice : ((List (Int × (ByteArray × ByteArray)))) → Option ((Int × Int × Int × Int × Int × Int × Int × Int × List Int × Int × Int × Bool × Int × Int × ByteArray × (List (Int × (Int × Int))) × Int) × Bool) := evG (spec_RunDevice_ (fun _ => g_spec_DeviceNew) (fun _ => g_spec_InOk) (fun _ => g_spec_TickDevice))
theorem e_spec_RunDevice : ∀ x b, g_spec_RunDevice x = some b → ∃ k, spec_RunDevice_ (fun _ => g_spec_DeviceNew) (fun _ => g_spec_InOk) (fun _ => g_spec_TickDevice) k x = some b := evG_e _
/- spec_l18Device -/
def con_spec_l18Device (f : Nat → (List Int × Int × Int) × List Int → Option ((Int × Int × Int × Int × Int × Int × Int × Int × List Int × Int × Int × Bool × Int × Int × ByteArray × (List (Int × (Int × Int))) × Int) × (Unit × Int × Int))) : Con := ⟨[.ptr [.sl (.int .u8), .int .i64, .int .i64] 152, .c (.sl (.int .u8))], 1, [.v true [.int .i64, .int .i64, .int .i64, .int .i64, .int .i64, .int .i64, .int .i64, .int .i64, .own (.int .i64) 3, .int .i64, .int .i64, .bool, .int .i64, .int .i64, .str, .own (.pair (.int .i64) (.pair (.int .i64) (.int .i64))) 101, .int .i64], .box [.keep, .int .i64, .int .i64] 152], f⟩
def spec_l18Device_ (spec_RunDevice : Nat → ((List (Int × (ByteArray × ByteArray)))) → Option ((Int × Int × Int × Int × Int × Int × Int × Int × List Int × Int × Int × Bool × Int × Int × ByteArray × (List (Int × (Int × Int))) × Int) × Bool)) (spec_l18Ins : Nat → (List Int × Int × Int) × List Int → Option (((List (Int × (ByteArray × ByteArray)))) × (Unit × Int × Int))) (k : Nat) : (List Int × Int × Int) × List Int → Option ((Int × Int × Int × Int × Int × Int × Int × Int × List Int × Int × Int × Bool × Int × Int × ByteArray × (List (Int × (Int × Int))) × Int) × (Unit × Int × Int))
  | ((a0, a1, a2), a3) =>
  (spec_l18Ins k ((a0, (a1, a2)), a3)).bind fun v0 =>
  (spec_RunDevice k v0.1).bind fun v1 =>
  some (v1.1, ((), v0.2.2))
noncomputable def g_spec_l18Device : (List Int × Int × Int) × List Int → Option ((Int × Int × Int × Int × Int × Int × Int × Int × List Int × Int × Int × Bool × Int × Int × ByteArray × (List (Int × (Int × Int))) × Int) × (Unit × Int × Int)) := spec_l18Device_ (fun _ => g_spec_RunDevice) (fun _ => g_spec_l18Ins) 0
theorem e_spec_l18Device : ∀ x b, g_spec_l18Device x = some b → ∃ k, spec_l18Device_ (fun _ => g_spec_RunDevice) (fun _ => g_spec_l18Ins) k x = some b := fun x b h => ⟨0, h⟩
/- spec_l18Any -/
def con_spec_l18Any (f : Nat → (List Int × Int × Int) × List Int → Option ((Int × Int × Int × Int × Int × Int × Int × Int × List Int × Int × Int × Bool × Int × Int × ByteArray × (List (Int × (Int × Int))) × Int) × (Unit × Int × Int))) : Con := ⟨[.ptr [.sl (.int .u8), .int .i64, .int .i64] 152, .c (.sl (.int .u8))], 1, [.v true [.int .i64, .int .i64, .int .i64, .int .i64, .int .i64, .int .i64, .int .i64, .int .i64, .own (.int .i64) 3, .int .i64, .int .i64, .bool, .int .i64, .int .i64, .str, .own (.pair (.int .i64) (.pair (.int .i64) (.int .i64))) 101, .int .i64], .box [.keep, .int .i64, .int .i64] 152], f⟩
def spec_l18Any_L12 (spec_l01Below : Nat → (List Int × Int × Int) × Int → Option (Int × (Unit × Int × Int))) (spec_l01PickInt : Nat → (List Int × Int × Int) × List Int → Option (Int × (Unit × Int × Int))) (spec_l15Any : Nat → (List Int × Int × Int) → Option ((Int × Int × Int × Int × Int × Int × Int × Int) × (Unit × Int × Int))) (spec_l16Any : Nat → (List Int × Int × Int) → Option ((List Int × Int) × (Unit × Int × Int))) (spec_l17Menu : Nat → (List Int × Int × Int) → Option ((Int × Bool × Int × Int × ByteArray) × (Unit × Int × Int))) (spec_l18Copy : Nat → (Int × Int × Int × Int × Int × Int × Int × Int × List Int × Int × Int × Bool × Int × Int × ByteArray × (List (Int × (Int × Int))) × Int) → Option ((Int × Int × Int × Int × Int × Int × Int × Int × List Int × Int × Int × Bool × Int × Int × ByteArray × (List (Int × (Int × Int))) × Int))) (spec_l18Device : Nat → (List Int × Int × Int) × List Int → Option ((Int × Int × Int × Int × Int × Int × Int × Int × List Int × Int × Int × Bool × Int × Int × ByteArray × (List (Int × (Int × Int))) × Int) × (Unit × Int × Int))) : Nat → Bool × Int × Int × List Int × Int × Int × Int × Int × Int × Int × Int × Int × Int × Int × Bool × Int × Int × ByteArray × Int × Int × Int × Int × Int × Int × Int × Int × Int × Int × Int × Bool × Int × Int × ByteArray × Int × List Int × List Int × List Int × (List (Int × (Int × Int))) × Unit → Option ((Int × Int × Int × Int × Int × Int × Int × Int × List Int × Int × Int × Bool × Int × Int × ByteArray × (List (Int × (Int × Int))) × Int) × (Unit × Int × Int))
  | 0, _ => none
  | k + 1, (b0, b1, b2, b3, b4, b5, b6, b7, b8, b9, b10, b11, b12, b13, b14, b15, b16, b17, b18, b19, b20, b21, b22, b23, b24, b25, b26, b27, b28, b29, b30, b31, b32, b33, b34, b35, b36, b37, ()) =>
    (spec_l01Below k ((b3, (b1, b2)), 3)).bind fun v0 =>
    if ((List.length b37 : Nat) : Int) < (wrap64 (199 + v0.1)) then
     if (((List.length b37 + List.length [(0, (0, 0))] : Nat) : Int) * ((24 : Nat) : Int)) ≤ 140737488355328 then spec_l18Any_L12 spec_l01Below spec_l01PickInt spec_l15Any spec_l16Any spec_l17Menu spec_l18Copy spec_l18Device k (b0, v0.2.2.1, v0.2.2.2, b3, b4, b5, b6, b7, b8, b9, b10, b11, b12, b13, b14, b15, b16, b17, b18, b19, b20, b21, b22, b23, b24, b25, b26, b27, b28, b29, b30, b31, b32, b33, b34, b35, b36, (b37 ++ [(0, (0, 0))]), ()) else none
    else
     some ((b19, (b20, (b21, (b22, (b23, (b24, (b25, (b26, (b36, (b27, (b28, (b29, (b30, (b31, (b32, (b37, b33)))))))))))))))), ((), v0.2.2))
def spec_l18Any_ (spec_l01Below : Nat → (List Int × Int × Int) × Int → Option (Int × (Unit × Int × Int))) (spec_l01PickInt : Nat → (List Int × Int × Int) × List Int → Option (Int × (Unit × Int × Int))) (spec_l15Any : Nat → (List Int × Int × Int) → Option ((Int × Int × Int × Int × Int × Int × Int × Int) × (Unit × Int × Int))) (spec_l16Any : Nat → (List Int × Int × Int) → Option ((List Int × Int) × (Unit × Int × Int))) (spec_l17Menu : Nat → (List Int × Int × Int) → Option ((Int × Bool × Int × Int × ByteArray) × (Unit × Int × Int))) (spec_l18Copy : Nat → (Int × Int × Int × Int × Int × Int × Int × Int × List Int × Int × Int × Bool × Int × Int × ByteArray × (List (Int × (Int × Int))) × Int) → Option ((Int × Int × Int × Int × Int × Int × Int × Int × List Int × Int × Int × Bool × Int × Int × ByteArray × (List (Int × (Int × Int))) × Int))) (spec_l18Device : Nat → (List Int × Int × Int) × List Int → Option ((Int × Int × Int × Int × Int × Int × Int × Int × List Int × Int × Int × Bool × Int × Int × ByteArray × (List (Int × (Int × Int))) × Int) × (Unit × Int × Int))) (k : Nat) : (List Int × Int × Int) × List Int → Option ((Int × Int × Int × Int × Int × Int × Int × Int × List Int × Int × Int × Bool × Int × Int × ByteArray × (List (Int × (Int × Int))) × Int) × (Unit × Int × Int))
  | ((a0, a1, a2), a3) =>
  (spec_l18Device k ((a0, (a1, a2)), a3)).bind fun v0 =>
  (spec_l18Copy k v0.1).bind fun v1 =>
  (spec_l01Below k ((a0, v0.2.2), 12)).bind fun v2 =>
  if v2.1 = 0 then
   (spec_l15Any k (a0, v2.2.2)).bind fun v3 =>
   some ((v3.1.1, (v3.1.2.1, (v3.1.2.2.1, (v3.1.2.2.2.1, (v3.1.2.2.2.2.1, (v3.1.2.2.2.2.2.1, (v3.1.2.2.2.2.2.2.1, (v3.1.2.2.2.2.2.2.2, v1.2.2.2.2.2.2.2.2)))))))), ((), v3.2.2))
  else
   if v2.1 = 1 then
    (spec_l16Any k (a0, v2.2.2)).bind fun v4 =>
    some ((v1.1, (v1.2.1, (v1.2.2.1, (v1.2.2.2.1, (v1.2.2.2.2.1, (v1.2.2.2.2.2.1, (v1.2.2.2.2.2.2.1, (v1.2.2.2.2.2.2.2.1, (v4.1.1, (v4.1.2, v1.2.2.2.2.2.2.2.2.2.2)))))))))), ((), v4.2.2))
   else
    if v2.1 = 2 then
     (spec_l17Menu k (a0, v2.2.2)).bind fun v5 =>
     some ((v1.1, (v1.2.1, (v1.2.2.1, (v1.2.2.2.1, (v1.2.2.2.2.1, (v1.2.2.2.2.2.1, (v1.2.2.2.2.2.2.1, (v1.2.2.2.2.2.2.2.1, (v1.2.2.2.2.2.2.2.2.1, (v1.2.2.2.2.2.2.2.2.2.1, (v5.1.1, (v5.1.2.1, (v5.1.2.2.1, (v5.1.2.2.2.1, (v5.1.2.2.2.2, v1.2.2.2.2.2.2.2.2.2.2.2.2.2.2.2))))))))))))))), ((), v5.2.2))
    else
     if v2.1 = 3 then
      (spec_l01PickInt k ((a0, v2.2.2), [(-1), 999999900, 1000000000])).bind fun v6 =>
      some ((v1.1, (v1.2.1, (v1.2.2.1, (v1.2.2.2.1, (v1.2.2.2.2.1, (v1.2.2.2.2.2.1, (v1.2.2.2.2.2.2.1, (v1.2.2.2.2.2.2.2.1, (v1.2.2.2.2.2.2.2.2.1, (v1.2.2.2.2.2.2.2.2.2.1, (v1.2.2.2.2.2.2.2.2.2.2.1, (v1.2.2.2.2.2.2.2.2.2.2.2.1, (v1.2.2.2.2.2.2.2.2.2.2.2.2.1, (v1.2.2.2.2.2.2.2.2.2.2.2.2.2.1, (v1.2.2.2.2.2.2.2.2.2.2.2.2.2.2.1, (v1.2.2.2.2.2.2.2.2.2.2.2.2.2.2.2.1, v6.1)))))))))))))))), ((), v6.2.2))
     else
      if v2.1 = 4 then
       spec_l18Any_L12 spec_l01Below spec_l01PickInt spec_l15Any spec_l16Any spec_l17Menu spec_l18Copy spec_l18Device k ((decide (v2.1 = 4)), v2.2.2.1, v2.2.2.2, a0, 0, 0, 0, 0, 0, 0, 0, 0, 0, 0, false, 0, 0, (⟨#[]⟩ : ByteArray), 0, v1.1, v1.2.1, v1.2.2.1, v1.2.2.2.1, v1.2.2.2.2.1, v1.2.2.2.2.2.1, v1.2.2.2.2.2.2.1, v1.2.2.2.2.2.2.2.1, v1.2.2.2.2.2.2.2.2.2.1, v1.2.2.2.2.2.2.2.2.2.2.1, v1.2.2.2.2.2.2.2.2.2.2.2.1, v1.2.2.2.2.2.2.2.2.2.2.2.2.1, v1.2.2.2.2.2.2.2.2.2.2.2.2.2.1, v1.2.2.2.2.2.2.2.2.2.2.2.2.2.2.1, v1.2.2.2.2.2.2.2.2.2.2.2.2.2.2.2.2, [], [], v1.2.2.2.2.2.2.2.2.1, v1.2.2.2.2.2.2.2.2.2.2.2.2.2.2.2.1, ())
      else
       some (v1, ((), v2.2.2))
noncomputable def g_spec_l18Any : (List Int × Int × Int) × List Int → Option ((Int × Int × Int × Int × Int × Int × Int × Int × List Int × Int × Int × Bool × Int × Int × ByteArray × (List (Int × (Int × Int))) × Int) × (Unit × Int × Int)) := evG (spec_l18Any_ (fun _ => g_spec_l01Below) (fun _ => g_spec_l01PickInt) (fun _ => g_spec_l15Any) (fun _ => g_spec_l16Any) (fun _ => g_spec_l17Menu) (fun _ => g_spec_l18Copy) (fun _ => g_spec_l18Device))
theorem e_spec_l18Any : ∀ x b, g_spec_l18Any x = some b → ∃ k, spec_l18Any_ (fun _ => g_spec_l01Below) (fun _ => g_spec_l01PickInt) (fun _ => g_spec_l15Any) (fun _ => g_spec_l16Any) (fun _ => g_spec_l17Menu) (fun _ => g_spec_l18Copy) (fun _ => g_spec_l18Device) k x = some b := evG_e _
/- spec_DrawSoundDevice -/
def con_spec_DrawSoundDevice (f : Nat → List Int → Option ((Int × Int × Int × Int × Int × Int × Int × Int × List Int × Int × Int × Bool × Int × Int × ByteArray × (List (Int × (Int × Int))) × Int))) : Con := ⟨[.c (.sl (.int .u8))], 1, [.v true [.int .i64, .int .i64, .int .i64, .int .i64, .int .i64, .int .i64, .int .i64, .int .i64, .own (.int .i64) 3, .int .i64, .int .i64, .bool, .int .i64, .int .i64, .str, .own (.pair (.int .i64) (.pair (.int .i64) (.int .i64))) 101, .int .i64]], f⟩
def spec_DrawSoundDevice_ (spec_l01Below : Nat → (List Int × Int × Int) × Int → Option (Int × (Unit × Int × Int))) (spec_l01New : Nat → List Int → Option ((Unit × Int × Int))) (spec_l01Once : Nat → (List Int × Int × Int) × Int → Option (Bool × (Unit × Int × Int))) (spec_l01PickInt : Nat → (List Int × Int × Int) × List Int → Option (Int × (Unit × Int × Int))) (spec_l18Any : Nat → (List Int × Int × Int) × List Int → Option ((Int × Int × Int × Int × Int × Int × Int × Int × List Int × Int × Int × Bool × Int × Int × ByteArray × (List (Int × (Int × Int))) × Int) × (Unit × Int × Int))) (k : Nat) : List Int → Option ((Int × Int × Int × Int × Int × Int × Int × Int × List Int × Int × Int × Bool × Int × Int × ByteArray × (List (Int × (Int × Int))) × Int))
  | a0 =>
  (spec_l01New k a0).bind fun v0 =>
  (spec_l18Any k ((a0, v0.2), a0)).bind fun v1 =>
  if 0 < ((List.length v1.1.2.2.2.2.2.2.2.2.2.2.2.2.2.2.2.1 : Nat) : Int) then
   (spec_l01Once k ((a0, v1.2.2), 4)).bind fun v2 =>
   if v2.1 = true then
    (spec_l01Below k ((a0, v2.2.2), ((List.length v1.1.2.2.2.2.2.2.2.2.2.2.2.2.2.2.2.1 : Nat) : Int))).bind fun v3 =>
    (spec_l01PickInt k ((a0, v3.2.2), [0, 1, 31])).bind fun v4 =>
    if 0 ≤ v3.1 then
     if v3.1 < ((List.length v1.1.2.2.2.2.2.2.2.2.2.2.2.2.2.2.2.1 : Nat) : Int) then some (v1.1.1, (v1.1.2.1, (v1.1.2.2.1, (v1.1.2.2.2.1, (v1.1.2.2.2.2.1, (v1.1.2.2.2.2.2.1, (v1.1.2.2.2.2.2.2.1, (v1.1.2.2.2.2.2.2.2.1, (v1.1.2.2.2.2.2.2.2.2.1, (v1.1.2.2.2.2.2.2.2.2.2.1, (v1.1.2.2.2.2.2.2.2.2.2.2.1, (v1.1.2.2.2.2.2.2.2.2.2.2.2.1, (v1.1.2.2.2.2.2.2.2.2.2.2.2.2.1, (v1.1.2.2.2.2.2.2.2.2.2.2.2.2.2.1, (v1.1.2.2.2.2.2.2.2.2.2.2.2.2.2.2.1, ((List.set v1.1.2.2.2.2.2.2.2.2.2.2.2.2.2.2.2.1 (Int.toNat v3.1) (v4.1, (List.getD v1.1.2.2.2.2.2.2.2.2.2.2.2.2.2.2.2.1 (Int.toNat v3.1) (0, (0, 0))).2)), v1.1.2.2.2.2.2.2.2.2.2.2.2.2.2.2.2.2)))))))))))))))) else none
    else
     none
   else
    some v1.1
  else
   some v1.1
noncomputable def g_spec_DrawSoundDevice : List Int → Option ((Int × Int × Int × Int × Int × Int × Int × Int × List Int × Int × Int × Bool × Int × Int × ByteArray × (List (Int × (Int × Int))) × Int)) := spec_DrawSoundDevice_ (fun _ => g_spec_l01Below) (fun _ => g_spec_l01New) (fun _ => g_spec_l01Once) (fun _ => g_spec_l01PickInt) (fun _ => g_spec_l18Any) 0
theorem e_spec_DrawSoundDevice : ∀ x b, g_spec_DrawSoundDevice x = some b → ∃ k, spec_DrawSoundDevice_ (fun _ => g_spec_l01Below) (fun _ => g_spec_l01New) (fun _ => g_spec_l01Once) (fun _ => g_spec_l01PickInt) (fun _ => g_spec_l18Any) k x = some b := fun x b h => ⟨0, h⟩
/- spec_DrawLatched -/
def con_spec_DrawLatched (f : Nat → List Int → Option (((List (Int × (Int × Int)))) × ((List (Int × (ByteArray × ByteArray)))))) : Con := ⟨[.c (.sl (.int .u8))], 2, [.v false [.exr (.pair (.int .i64) (.pair (.int .i64) (.int .i64))) 0], .v false [.own (.pair (.int .i64) (.pair .str .str)) 59]], f⟩
def spec_DrawLatched_ (spec_RunDevice : Nat → ((List (Int × (ByteArray × ByteArray)))) → Option ((Int × Int × Int × Int × Int × Int × Int × Int × List Int × Int × Int × Bool × Int × Int × ByteArray × (List (Int × (Int × Int))) × Int) × Bool)) (spec_l01Below : Nat → (List Int × Int × Int) × Int → Option (Int × (Unit × Int × Int))) (spec_l01New : Nat → List Int → Option ((Unit × Int × Int))) (spec_l18Ins : Nat → (List Int × Int × Int) × List Int → Option (((List (Int × (ByteArray × ByteArray)))) × (Unit × Int × Int))) (k : Nat) : List Int → Option (((List (Int × (Int × Int)))) × ((List (Int × (ByteArray × ByteArray)))))
  | a0 =>
  (spec_l01New k a0).bind fun v0 =>
  (spec_l18Ins k ((a0, v0.2), a0)).bind fun v1 =>
  (spec_RunDevice k v1.1).bind fun v2 =>
  if (((List.length ([] : List (Int × (Int × Int))) + List.length v2.1.2.2.2.2.2.2.2.2.2.2.2.2.2.2.2.1 : Nat) : Int) * ((24 : Nat) : Int)) ≤ 140737488355328 then
   if 0 < ((List.length (([] : List (Int × (Int × Int))) ++ v2.1.2.2.2.2.2.2.2.2.2.2.2.2.2.2.2.1) : Nat) : Int) then
    (spec_l01Below k ((a0, v1.2.2), ((List.length (([] : List (Int × (Int × Int))) ++ v2.1.2.2.2.2.2.2.2.2.2.2.2.2.2.2.2.1) : Nat) : Int))).bind fun v3 =>
    (spec_l01Below k ((a0, v3.2.2), 6)).bind fun v4 =>
    if v4.1 = 0 then
     (spec_l01Below k ((a0, v4.2.2), 17)).bind fun v5 =>
     if 0 ≤ v3.1 then
      if v3.1 < ((List.length (([] : List (Int × (Int × Int))) ++ v2.1.2.2.2.2.2.2.2.2.2.2.2.2.2.2.2.1) : Nat) : Int) then some ((List.set (([] : List (Int × (Int × Int))) ++ v2.1.2.2.2.2.2.2.2.2.2.2.2.2.2.2.2.1) (Int.toNat v3.1) ((List.getD (([] : List (Int × (Int × Int))) ++ v2.1.2.2.2.2.2.2.2.2.2.2.2.2.2.2.2.1) (Int.toNat v3.1) (0, (0, 0))).1, (v5.1, (List.getD (([] : List (Int × (Int × Int))) ++ v2.1.2.2.2.2.2.2.2.2.2.2.2.2.2.2.2.1) (Int.toNat v3.1) (0, (0, 0))).2.2))), v1.1) else none
     else
      none
    else
     if v4.1 = 1 then
      if 0 ≤ 1 then
       if 1 ≤ ((List.length (([] : List (Int × (Int × Int))) ++ v2.1.2.2.2.2.2.2.2.2.2.2.2.2.2.2.2.1) : Nat) : Int) then some ((List.drop (Int.toNat 1) (List.take (Int.toNat ((List.length (([] : List (Int × (Int × Int))) ++ v2.1.2.2.2.2.2.2.2.2.2.2.2.2.2.2.2.1) : Nat) : Int)) (([] : List (Int × (Int × Int))) ++ v2.1.2.2.2.2.2.2.2.2.2.2.2.2.2.2.2.1))), v1.1) else none
      else
       none
     else
      if v4.1 = 2 then
       (spec_l01Below k ((a0, v4.2.2), 17)).bind fun v6 =>
       if 0 ≤ v3.1 then
        if v3.1 < ((List.length v1.1 : Nat) : Int) then some ((([] : List (Int × (Int × Int))) ++ v2.1.2.2.2.2.2.2.2.2.2.2.2.2.2.2.2.1), (List.set v1.1 (Int.toNat v3.1) (v6.1, (List.getD v1.1 (Int.toNat v3.1) (0, ((⟨#[]⟩ : ByteArray), (⟨#[]⟩ : ByteArray)))).2))) else none
       else
        none
      else
       some ((([] : List (Int × (Int × Int))) ++ v2.1.2.2.2.2.2.2.2.2.2.2.2.2.2.2.2.1), v1.1)
   else
    some ((([] : List (Int × (Int × Int))) ++ v2.1.2.2.2.2.2.2.2.2.2.2.2.2.2.2.2.1), v1.1)
  else
   none
noncomputable def g_spec_DrawLatched : List Int → Option (((List (Int × (Int × Int)))) × ((List (Int × (ByteArray × ByteArray))))) := spec_DrawLatched_ (fun _ => g_spec_RunDevice) (fun _ => g_spec_l01Below) (fun _ => g_spec_l01New) (fun _ => g_spec_l18Ins) 0
theorem e_spec_DrawLatched : ∀ x b, g_spec_DrawLatched x = some b → ∃ k, spec_DrawLatched_ (fun _ => g_spec_RunDevice) (fun _ => g_spec_l01Below) (fun _ => g_spec_l01New) (fun _ => g_spec_l18Ins) k x = some b := fun x b h => ⟨0, h⟩
/- spec_l19Ticks -/
def con_spec_l19Ticks (f : Nat → (List Int × Int × Int) × List Int → Option (((List (Int × (Int × Int)))) × (Unit × Int × Int))) : Con := ⟨[.ptr [.sl (.int .u8), .int .i64, .int .i64] 152, .c (.sl (.int .u8))], 1, [.v false [.own (.pair (.int .i64) (.pair (.int .i64) (.int .i64))) 101], .box [.keep, .int .i64, .int .i64] 152], f⟩
def spec_l19Ticks_ (spec_l01Below : Nat → (List Int × Int × Int) × Int → Option (Int × (Unit × Int × Int))) (spec_l01PickInt : Nat → (List Int × Int × Int) × List Int → Option (Int × (Unit × Int × Int))) (spec_l18Device : Nat → (List Int × Int × Int) × List Int → Option ((Int × Int × Int × Int × Int × Int × Int × Int × List Int × Int × Int × Bool × Int × Int × ByteArray × (List (Int × (Int × Int))) × Int) × (Unit × Int × Int))) (k : Nat) : (List Int × Int × Int) × List Int → Option (((List (Int × (Int × Int)))) × (Unit × Int × Int))
  | ((a0, a1, a2), a3) =>
  (spec_l18Device k ((a0, (a1, a2)), a3)).bind fun v0 =>
  if (((List.length ([] : List (Int × (Int × Int))) + List.length v0.1.2.2.2.2.2.2.2.2.2.2.2.2.2.2.2.1 : Nat) : Int) * ((24 : Nat) : Int)) ≤ 140737488355328 then
   if 0 < ((List.length (([] : List (Int × (Int × Int))) ++ v0.1.2.2.2.2.2.2.2.2.2.2.2.2.2.2.2.1) : Nat) : Int) then
    (spec_l01Below k ((a0, v0.2.2), ((List.length (([] : List (Int × (Int × Int))) ++ v0.1.2.2.2.2.2.2.2.2.2.2.2.2.2.2.2.1) : Nat) : Int))).bind fun v1 =>
    (spec_l01Below k ((a0, v1.2.2), 8)).bind fun v2 =>
    if v2.1 = 0 then
     if 0 ≤ v1.1 then
      if v1.1 < ((List.length (([] : List (Int × (Int × Int))) ++ v0.1.2.2.2.2.2.2.2.2.2.2.2.2.2.2.2.1) : Nat) : Int) then (spec_l01PickInt k ((a0, v2.2.2), [1, 9, 30, (-1)])).bind fun v3 =>
       if 0 ≤ v1.1 then
        if v1.1 < ((List.length (([] : List (Int × (Int × Int))) ++ v0.1.2.2.2.2.2.2.2.2.2.2.2.2.2.2.2.1) : Nat) : Int) then some ((List.set (([] : List (Int × (Int × Int))) ++ v0.1.2.2.2.2.2.2.2.2.2.2.2.2.2.2.2.1) (Int.toNat v1.1) ((wrap64 ((List.getD (([] : List (Int × (Int × Int))) ++ v0.1.2.2.2.2.2.2.2.2.2.2.2.2.2.2.2.1) (Int.toNat v1.1) (0, (0, 0))).1 + v3.1)), (List.getD (([] : List (Int × (Int × Int))) ++ v0.1.2.2.2.2.2.2.2.2.2.2.2.2.2.2.2.1) (Int.toNat v1.1) (0, (0, 0))).2)), ((), v3.2.2)) else none
       else
        none else none
     else
      none
    else
     if v2.1 = 1 then
      (spec_l01Below k ((a0, v2.2.2), 17)).bind fun v4 =>
      if 0 ≤ v1.1 then
       if v1.1 < ((List.length (([] : List (Int × (Int × Int))) ++ v0.1.2.2.2.2.2.2.2.2.2.2.2.2.2.2.2.1) : Nat) : Int) then some ((List.set (([] : List (Int × (Int × Int))) ++ v0.1.2.2.2.2.2.2.2.2.2.2.2.2.2.2.2.1) (Int.toNat v1.1) ((List.getD (([] : List (Int × (Int × Int))) ++ v0.1.2.2.2.2.2.2.2.2.2.2.2.2.2.2.2.1) (Int.toNat v1.1) (0, (0, 0))).1, (v4.1, (List.getD (([] : List (Int × (Int × Int))) ++ v0.1.2.2.2.2.2.2.2.2.2.2.2.2.2.2.2.1) (Int.toNat v1.1) (0, (0, 0))).2.2))), ((), v4.2.2)) else none
      else
       none
     else
      some ((([] : List (Int × (Int × Int))) ++ v0.1.2.2.2.2.2.2.2.2.2.2.2.2.2.2.2.1), ((), v2.2.2))
   else
    some ((([] : List (Int × (Int × Int))) ++ v0.1.2.2.2.2.2.2.2.2.2.2.2.2.2.2.2.1), ((), v0.2.2))
  else
   none
noncomputable def g_spec_l19Ticks : (List Int × Int × Int) × List Int → Option (((List (Int × (Int × Int)))) × (Unit × Int × Int)) := spec_l19Ticks_ (fun _ => g_spec_l01Below) (fun _ => g_spec_l01PickInt) (fun _ => g_spec_l18Device) 0
theorem e_spec_l19Ticks : ∀ x b, g_spec_l19Ticks x = some b → ∃ k, spec_l19Ticks_ (fun _ => g_spec_l01Below) (fun _ => g_spec_l01PickInt) (fun _ => g_spec_l18Device) k x = some b := fun x b h => ⟨0, h⟩
/- spec_DrawStopsOnAlarm -/
def con_spec_DrawStopsOnAlarm (f : Nat → List Int → Option (((List (Int × (Int × Int)))))) : Con := ⟨[.c (.sl (.int .u8))], 1, [.v false [.own (.pair (.int .i64) (.pair (.int .i64) (.int .i64))) 101]], f⟩
def spec_DrawStopsOnAlarm_ (spec_l01New : Nat → List Int → Option ((Unit × Int × Int))) (spec_l19Ticks : Nat → (List Int × Int × Int) × List Int → Option (((List (Int × (Int × Int)))) × (Unit × Int × Int))) (k : Nat) : List Int → Option (((List (Int × (Int × Int)))))
  | a0 =>
  (spec_l01New k a0).bind fun v0 =>
  (spec_l19Ticks k ((a0, v0.2), a0)).bind fun v1 =>
  some v1.1
noncomputable def g_spec_DrawStopsOnAlarm : List Int → Option (((List (Int × (Int × Int))))) := spec_DrawStopsOnAlarm_ (fun _ => g_spec_l01New) (fun _ => g_spec_l19Ticks) 0
theorem e_spec_DrawStopsOnAlarm : ∀ x b, g_spec_DrawStopsOnAlarm x = some b → ∃ k, spec_DrawStopsOnAlarm_ (fun _ => g_spec_l01New) (fun _ => g_spec_l19Ticks) k x = some b := fun x b h => ⟨0, h⟩
/- spec_DrawWithinLimits -/
def con_spec_DrawWithinLimits (f : Nat → List Int → Option (((List (Int × (Int × Int)))))) : Con := ⟨[.c (.sl (.int .u8))], 1, [.v false [.own (.pair (.int .i64) (.pair (.int .i64) (.int .i64))) 101]], f⟩
def spec_DrawWithinLimits_ (spec_l01New : Nat → List Int → Option ((Unit × Int × Int))) (spec_l19Ticks : Nat → (List Int × Int × Int) × List Int → Option (((List (Int × (Int × Int)))) × (Unit × Int × Int))) (k : Nat) : List Int → Option (((List (Int × (Int × Int)))))
  | a0 =>
  (spec_l01New k a0).bind fun v0 =>
  (spec_l19Ticks k ((a0, v0.2), a0)).bind fun v1 =>
  some v1.1
noncomputable def g_spec_DrawWithinLimits : List Int → Option (((List (Int × (Int × Int))))) := spec_DrawWithinLimits_ (fun _ => g_spec_l01New) (fun _ => g_spec_l19Ticks) 0
theorem e_spec_DrawWithinLimits : ∀ x b, g_spec_DrawWithinLimits x = some b → ∃ k, spec_DrawWithinLimits_ (fun _ => g_spec_l01New) (fun _ => g_spec_l19Ticks) k x = some b := fun x b h => ⟨0, h⟩
/- laws_big -/
def con_laws_big (f : Nat → List Int → Option (Bool)) : Con := ⟨[.c (.sl (.int .u8))], 1, [.v false [.bool]], f⟩
def laws_big_ (k : Nat) : List Int → Option (Bool)
  | a0 =>
  some (decide (1048576 < ((List.length a0 : Nat) : Int)))
noncomputable def g_laws_big : List Int → Option (Bool) := laws_big_  0
theorem e_laws_big : ∀ x b, g_laws_big x = some b → ∃ k, laws_big_  k x = some b := fun x b h => ⟨0, h⟩
/- laws_FnWatches -/
def con_laws_FnWatches (f : Nat → List Int → Option (Bool)) : Con := ⟨[.c (.sl (.int .u8))], 1, [.v false [.bool]], f⟩
def laws_FnWatches_ (impl_Latched : Nat → ((List (Int × (Int × Int)))) × ((List (Int × (ByteArray × ByteArray)))) → Option (Bool)) (impl_RunDevice : Nat → ((List (Int × (ByteArray × ByteArray)))) → Option ((Int × Int × Int × Int × Int × Int × Int × Int × List Int × Int × Int × Bool × Int × Int × ByteArray × (List (Int × (Int × Int))) × Int) × Bool)) (impl_SoundDevice : Nat → (Int × Int × Int × Int × Int × Int × Int × Int × List Int × Int × Int × Bool × Int × Int × ByteArray × (List (Int × (Int × Int))) × Int) → Option (Bool)) (impl_StopsOnAlarm : Nat → ((List (Int × (Int × Int)))) → Option (Bool)) (impl_TotalOf : Nat → ((List (Int × (Int × Int)))) → Option (Int)) (impl_WithinLimits : Nat → ((List (Int × (Int × Int)))) → Option (Bool)) (laws_big : Nat → List Int → Option (Bool)) (spec_DrawIns : Nat → List Int → Option (((List (Int × (ByteArray × ByteArray)))))) (spec_DrawLatched : Nat → List Int → Option (((List (Int × (Int × Int)))) × ((List (Int × (ByteArray × ByteArray)))))) (spec_DrawSoundDevice : Nat → List Int → Option ((Int × Int × Int × Int × Int × Int × Int × Int × List Int × Int × Int × Bool × Int × Int × ByteArray × (List (Int × (Int × Int))) × Int))) (spec_DrawStopsOnAlarm : Nat → List Int → Option (((List (Int × (Int × Int)))))) (spec_DrawWithinLimits : Nat → List Int → Option (((List (Int × (Int × Int)))))) (spec_Latched : Nat → ((List (Int × (Int × Int)))) × ((List (Int × (ByteArray × ByteArray)))) → Option (Bool)) (spec_SoundDevice : Nat → (Int × Int × Int × Int × Int × Int × Int × Int × List Int × Int × Int × Bool × Int × Int × ByteArray × (List (Int × (Int × Int))) × Int) → Option (Bool)) (spec_StopsOnAlarm : Nat → ((List (Int × (Int × Int)))) → Option (Bool)) (spec_TotalOf : Nat → ((List (Int × (Int × Int)))) → Option (Int)) (spec_WithinLimits : Nat → ((List (Int × (Int × Int)))) → Option (Bool)) (k : Nat) : List Int → Option (Bool)
  | a0 =>
  (laws_big k a0).bind fun v0 =>
  if v0 = true then
   some true
  else
   (spec_DrawWithinLimits k a0).bind fun v1 =>
   (spec_DrawStopsOnAlarm k a0).bind fun v2 =>
   (spec_DrawLatched k a0).bind fun v3 =>
   (spec_DrawSoundDevice k a0).bind fun v4 =>
   (spec_DrawIns k a0).bind fun v5 =>
   (impl_RunDevice k v5).bind fun v6 =>
   (impl_WithinLimits k v1).bind fun v7 =>
   (spec_WithinLimits k v1).bind fun v8 =>
   if (v7 == v8) = true then
    (impl_StopsOnAlarm k v2).bind fun v9 =>
    (spec_StopsOnAlarm k v2).bind fun v10 =>
    if (v9 == v10) = true then
     (impl_Latched k v3).bind fun v11 =>
     (spec_Latched k v3).bind fun v12 =>
     if (v11 == v12) = true then
      (impl_SoundDevice k v4).bind fun v13 =>
      (spec_SoundDevice k v4).bind fun v14 =>
      if (v13 == v14) = true then
       (impl_TotalOf k v1).bind fun v15 =>
       (spec_TotalOf k v1).bind fun v16 =>
       if v15 = v16 then
        if v6.2 = true then
         (impl_SoundDevice k v6.1).bind fun v17 =>
         some v17
        else
         some false
       else
        some false
      else
       some false
     else
      some false
    else
     some false
   else
    some false
noncomputable def g_laws_FnWatches : List Int → Option (Bool) := laws_FnWatches_ (fun _ => g_impl_Latched) (fun _ => g_impl_RunDevice) (fun _ => g_impl_SoundDevice) (fun _ => g_impl_StopsOnAlarm) (fun _ => g_impl_TotalOf) (fun _ => g_impl_WithinLimits) (fun _ => g_laws_big) (fun _ => g_spec_DrawIns) (fun _ => g_spec_DrawLatched) (fun _ => g_spec_DrawSoundDevice) (fun _ => g_spec_DrawStopsOnAlarm) (fun _ => g_spec_DrawWithinLimits) (fun _ => g_spec_Latched) (fun _ => g_spec_SoundDevice) (fun _ => g_spec_StopsOnAlarm) (fun _ => g_spec_TotalOf) (fun _ => g_spec_WithinLimits) 0
theorem e_laws_FnWatches : ∀ x b, g_laws_FnWatches x = some b → ∃ k, laws_FnWatches_ (fun _ => g_impl_Latched) (fun _ => g_impl_RunDevice) (fun _ => g_impl_SoundDevice) (fun _ => g_impl_StopsOnAlarm) (fun _ => g_impl_TotalOf) (fun _ => g_impl_WithinLimits) (fun _ => g_laws_big) (fun _ => g_spec_DrawIns) (fun _ => g_spec_DrawLatched) (fun _ => g_spec_DrawSoundDevice) (fun _ => g_spec_DrawStopsOnAlarm) (fun _ => g_spec_DrawWithinLimits) (fun _ => g_spec_Latched) (fun _ => g_spec_SoundDevice) (fun _ => g_spec_StopsOnAlarm) (fun _ => g_spec_TotalOf) (fun _ => g_spec_WithinLimits) k x = some b := fun x b h => ⟨0, h⟩
end Go.Sx.T
