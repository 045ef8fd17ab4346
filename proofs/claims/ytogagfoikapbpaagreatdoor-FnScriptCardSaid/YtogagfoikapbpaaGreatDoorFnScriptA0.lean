/- Functions of the program as functions of Lean, and that the program keeps to them. -/
import Derived.Test.YtogagfoikapbpaaGreatDoorSz3
set_option maxRecDepth 100000
set_option linter.unusedVariables false
set_option linter.unusedSimpArgs false
namespace Go.Proofs
end Go.Proofs
namespace Go.Sx.T
open Go Go.Sx Go.Proofs Go.RowKit
/- strings_Join -/
def con_strings_Join (f : Nat → List ByteArray × ByteArray → Option (ByteArray)) : Con := ⟨[.c (.sl .str), .c .str], 1, [.v false [.str]], f⟩
noncomputable def g_strings_Join : List ByteArray × ByteArray → Option (ByteArray) := fun x => joinF x.1 x.2
theorem e_strings_Join : True := trivial
/- strconv_Itoa -/
def con_strconv_Itoa (f : Nat → Int → Option (ByteArray)) : Con := ⟨[.c (.int .i64)], 1, [.v false [.str]], f⟩
noncomputable def g_strconv_Itoa : Int → Option (ByteArray) := itoaF
theorem e_strconv_Itoa : True := trivial
/- strings_Split -/
def con_strings_Split (f : Nat → ByteArray × ByteArray → Option (List ByteArray)) : Con := ⟨[.c .str, .c .str], 1, [.v false [.own .str 9]], f⟩
noncomputable def g_strings_Split : ByteArray × ByteArray → Option (List ByteArray) := fun x => splitF x.1 x.2
theorem e_strings_Split : True := trivial
/- strings_ReplaceAll -/
def con_strings_ReplaceAll (f : Nat → ByteArray × ByteArray × ByteArray → Option (ByteArray)) : Con := ⟨[.c .str, .c .str, .c .str], 1, [.v false [.str]], f⟩
noncomputable def g_strings_ReplaceAll : ByteArray × ByteArray × ByteArray → Option (ByteArray) := fun x => replaceF x.1 x.2.1 x.2.2
theorem e_strings_ReplaceAll : True := trivial
/- impl_ReadDecimal -/
def con_impl_ReadDecimal (f : Nat → ByteArray → Option (Int × Bool)) : Con := ⟨[.c .str], 2, [.v false [.int .i64], .v false [.bool]], f⟩
noncomputable def g_impl_ReadDecimal : ByteArray → Option (Int × Bool) := readDecG
theorem e_impl_ReadDecimal : True := trivial
/- strings_IndexByte -/
def con_strings_IndexByte (f : Nat → ByteArray × Int → Option (Int)) : Con := ⟨[.c .str, .c (.int .u8)], 1, [.v false [.int .i64]], f⟩
noncomputable def g_strings_IndexByte : ByteArray × Int → Option (Int) := fun x => some (indexByteF x.1 x.2)
theorem e_strings_IndexByte : True := trivial
/- impl_within -/
def con_impl_within (f : Nat → Int × Int × Int → Option (Bool)) : Con := ⟨[.c (.int .i64), .c (.int .i64), .c (.int .i64)], 1, [.v false [.bool]], f⟩
def impl_within_ (k : Nat) : Int × Int × Int → Option (Bool)
  | (a0, a1, a2) =>
  if a1 ≤ a0 then
   some (decide (a0 ≤ a2))
  else
   some false
noncomputable def g_impl_within : Int × Int × Int → Option (Bool) := impl_within_  0
theorem e_impl_within : ∀ x b, g_impl_within x = some b → ∃ k, impl_within_  k x = some b := fun x b h => ⟨0, h⟩
/- impl_SenseOk -/
def con_impl_SenseOk (f : Nat → Int → Option (Bool)) : Con := ⟨[.c (.int .i64)], 1, [.v false [.bool]], f⟩
def impl_SenseOk_ (impl_within : Nat → Int × Int × Int → Option (Bool)) (k : Nat) : Int → Option (Bool)
  | a0 =>
  (impl_within k (a0, (0, 15))).bind fun v0 =>
  some v0
noncomputable def g_impl_SenseOk : Int → Option (Bool) := impl_SenseOk_ (fun _ => g_impl_within) 0
theorem e_impl_SenseOk : ∀ x b, g_impl_SenseOk x = some b → ∃ k, impl_SenseOk_ (fun _ => g_impl_within) k x = some b := fun x b h => ⟨0, h⟩
/- impl_SenseNames -/
def con_impl_SenseNames (f : Nat → Int → Option (ByteArray)) : Con := ⟨[.c (.int .i64)], 1, [.v false [.str]], f⟩
def impl_SenseNames_L7 (impl_SenseOk : Nat → Int → Option (Bool)) (strings_Join : Nat → List ByteArray × ByteArray → Option (ByteArray)) : Nat → Int × Int × Int × List ByteArray × List ByteArray × Unit → Option (ByteArray)
  | 0, _ => none
  | k + 1, (b0, b1, b2, b3, b4, ()) =>
    if b2 < b1 then
     if 0 ≤ b2 then
      if b2 < ((List.length b4 : Nat) : Int) then
       if 0 ≤ b2 then
        if (iand .i64 (Int.fdiv b0 (2 ^ (min (Int.toNat b2) (IntKind.bits .i64)))) 1) = 1 then
         if (((List.length b3 + List.length [(List.getD b4 (Int.toNat b2) (⟨#[]⟩ : ByteArray))] : Nat) : Int) * ((16 : Nat) : Int)) ≤ 140737488355328 then impl_SenseNames_L7 impl_SenseOk strings_Join k (b0, b1, (wrap64 (b2 + 1)), (b3 ++ [(List.getD b4 (Int.toNat b2) (⟨#[]⟩ : ByteArray))]), b4, ()) else none
        else
         impl_SenseNames_L7 impl_SenseOk strings_Join k (b0, b1, (wrap64 (b2 + 1)), b3, b4, ())
       else
        none
      else
       none
     else
      none
    else
     (strings_Join k (b3, (⟨#[44]⟩ : ByteArray))).bind fun v0 =>
     some v0
def impl_SenseNames_ (impl_SenseOk : Nat → Int → Option (Bool)) (strings_Join : Nat → List ByteArray × ByteArray → Option (ByteArray)) (k : Nat) : Int → Option (ByteArray)
  | a0 =>
  (impl_SenseOk k a0).bind fun v0 =>
  if v0 = true then
   if a0 = 0 then
    some (⟨#[110, 111, 110, 101]⟩ : ByteArray)
   else
    impl_SenseNames_L7 impl_SenseOk strings_Join k (a0, ((List.length [(⟨#[98, 108, 111, 99, 107]⟩ : ByteArray), (⟨#[97, 105, 114]⟩ : ByteArray), (⟨#[100, 111, 111, 114]⟩ : ByteArray), (⟨#[112, 111, 119, 101, 114]⟩ : ByteArray)] : Nat) : Int), 0, ([] : List ByteArray), [(⟨#[98, 108, 111, 99, 107]⟩ : ByteArray), (⟨#[97, 105, 114]⟩ : ByteArray), (⟨#[100, 111, 111, 114]⟩ : ByteArray), (⟨#[112, 111, 119, 101, 114]⟩ : ByteArray)], ())
  else
   some (⟨#[]⟩ : ByteArray)
noncomputable def g_impl_SenseNames : Int → Option (ByteArray) := evG (impl_SenseNames_ (fun _ => g_impl_SenseOk) (fun _ => g_strings_Join))
theorem e_impl_SenseNames : ∀ x b, g_impl_SenseNames x = some b → ∃ k, impl_SenseNames_ (fun _ => g_impl_SenseOk) (fun _ => g_strings_Join) k x = some b := evG_e _
/- impl_Decimal -/
def con_impl_Decimal (f : Nat → Int → Option (ByteArray)) : Con := ⟨[.c (.int .i64)], 1, [.v false [.str]], f⟩
def impl_Decimal_ (strconv_Itoa : Nat → Int → Option (ByteArray)) (k : Nat) : Int → Option (ByteArray)
  | a0 =>
  (strconv_Itoa k a0).bind fun v0 =>
  some v0
noncomputable def g_impl_Decimal : Int → Option (ByteArray) := impl_Decimal_ (fun _ => g_strconv_Itoa) 0
theorem e_impl_Decimal : ∀ x b, g_impl_Decimal x = some b → ∃ k, impl_Decimal_ (fun _ => g_strconv_Itoa) k x = some b := fun x b h => ⟨0, h⟩
/- impl_isNumber -/
def con_impl_isNumber (f : Nat → Int → Option (Bool)) : Con := ⟨[.c (.int .i64)], 1, [.v false [.bool]], f⟩
def impl_isNumber_ (impl_within : Nat → Int × Int × Int → Option (Bool)) (k : Nat) : Int → Option (Bool)
  | a0 =>
  (impl_within k (a0, (0, 1000000000))).bind fun v0 =>
  some v0
noncomputable def g_impl_isNumber : Int → Option (Bool) := impl_isNumber_ (fun _ => g_impl_within) 0
theorem e_impl_isNumber : ∀ x b, g_impl_isNumber x = some b → ∃ k, impl_isNumber_ (fun _ => g_impl_within) k x = some b := fun x b h => ⟨0, h⟩
/- impl_MenuNew -/
def con_impl_MenuNew (f : Nat → Unit → Option ((Int × Bool × Int × Int × ByteArray))) : Con := ⟨[], 1, [.v true [.int .i64, .bool, .int .i64, .int .i64, .str]], f⟩
def impl_MenuNew_ (k : Nat) : Unit → Option ((Int × Bool × Int × Int × ByteArray))
  | () =>
  some (1, (false, (0, (0, (⟨#[]⟩ : ByteArray)))))
noncomputable def g_impl_MenuNew : Unit → Option ((Int × Bool × Int × Int × ByteArray)) := impl_MenuNew_  0
theorem e_impl_MenuNew : ∀ x b, g_impl_MenuNew x = some b → ∃ k, impl_MenuNew_  k x = some b := fun x b h => ⟨0, h⟩
/- impl_MenuOk -/
def con_impl_MenuOk (f : Nat → (Int × Bool × Int × Int × ByteArray) → Option (Bool)) : Con := ⟨[.agg [.int .i64, .bool, .int .i64, .int .i64, .str]], 1, [.v false [.bool]], f⟩
def impl_MenuOk_L2 (impl_MenuNew : Nat → Unit → Option ((Int × Bool × Int × Int × ByteArray))) (impl_within : Nat → Int × Int × Int → Option (Bool)) : Nat → Int × Int × Int × Bool × Int × Int × ByteArray × Unit → Option (Bool)
  | 0, _ => none
  | k + 1, (b0, b1, b2, b3, b4, b5, b6, ()) =>
    if b1 < b0 then
     if 0 ≤ b1 then
      if b1 < ((ByteArray.size b6 : Nat) : Int) then (impl_within k ((wrap64 (byt b6 b1)), (48, 57))).bind fun v0 =>
       if v0 = true then
        impl_MenuOk_L2 impl_MenuNew impl_within k (b0, (wrap64 (b1 + 1)), b2, b3, b4, b5, b6, ())
       else
        some false else none
     else
      none
    else
     if b2 = 1 then
      (impl_MenuNew k ()).bind fun v1 =>
      some ((decide (b2 = v1.1)) && ((b3 == v1.2.1) && ((decide (b4 = v1.2.2.1)) && ((decide (b5 = v1.2.2.2.1)) && (decide (b6 = v1.2.2.2.2))))))
     else
      (impl_within k (b2, (2, 4))).bind fun v2 =>
      if v2 = true then
       (impl_within k (b4, (0, 9999))).bind fun v3 =>
       if v3 = true then
        (impl_within k (b5, (0, 9999))).bind fun v4 =>
        if v4 = true then
         some (decide (((ByteArray.size b6 : Nat) : Int) ≤ 4))
        else
         some false
       else
        some false
      else
       some false
def impl_MenuOk_ (impl_MenuNew : Nat → Unit → Option ((Int × Bool × Int × Int × ByteArray))) (impl_within : Nat → Int × Int × Int → Option (Bool)) (k : Nat) : (Int × Bool × Int × Int × ByteArray) → Option (Bool)
  | (a0, a1, a2, a3, a4) =>
  impl_MenuOk_L2 impl_MenuNew impl_within k (((ByteArray.size a4 : Nat) : Int), 0, a0, a1, a2, a3, a4, ())
noncomputable def g_impl_MenuOk : (Int × Bool × Int × Int × ByteArray) → Option (Bool) := evG (impl_MenuOk_ (fun _ => g_impl_MenuNew) (fun _ => g_impl_within))
theorem e_impl_MenuOk : ∀ x b, g_impl_MenuOk x = some b → ∃ k, impl_MenuOk_ (fun _ => g_impl_MenuNew) (fun _ => g_impl_within) k x = some b := evG_e _
/- impl_RoomOf -/
def con_impl_RoomOf (f : Nat → (List Int × Int) → Option (Int)) : Con := ⟨[.agg [.sl (.int .i64), .int .i64]], 1, [.v false [.int .i64]], f⟩
def impl_RoomOf_L3 : Nat → Int × Int × Int × List Int × Unit → Option (Int)
  | 0, _ => none
  | k + 1, (b0, b1, b2, b3, ()) =>
    if b2 < b1 then
     if 0 ≤ b2 then
      if b2 < ((List.length b3 : Nat) : Int) then impl_RoomOf_L3 k ((wrap64 (b0 - (List.getD b3 (Int.toNat b2) 0))), b1, (wrap64 (b2 + 1)), b3, ()) else none
     else
      none
    else
     some b0
def impl_RoomOf_ (k : Nat) : (List Int × Int) → Option (Int)
  | (a0, a1) =>
  impl_RoomOf_L3 k (30, ((List.length a0 : Nat) : Int), 0, a0, ())
noncomputable def g_impl_RoomOf : (List Int × Int) → Option (Int) := evG (impl_RoomOf_ )
theorem e_impl_RoomOf : ∀ x b, g_impl_RoomOf x = some b → ∃ k, impl_RoomOf_  k x = some b := evG_e _
/- impl_GuardOk -/
def con_impl_GuardOk (f : Nat → (List Int × Int) → Option (Bool)) : Con := ⟨[.agg [.sl (.int .i64), .int .i64]], 1, [.v false [.bool]], f⟩
def impl_GuardOk_L2 (impl_RoomOf : Nat → (List Int × Int) → Option (Int)) (impl_SenseOk : Nat → Int → Option (Bool)) (impl_within : Nat → Int × Int × Int → Option (Bool)) : Nat → Int × Int × List Int × Int × Unit → Option (Bool)
  | 0, _ => none
  | k + 1, (b0, b1, b2, b3, ()) =>
    if b1 < b0 then
     if 0 ≤ b1 then
      if b1 < ((List.length b2 : Nat) : Int) then (impl_within k ((List.getD b2 (Int.toNat b1) 0), (0, 30))).bind fun v0 =>
       if v0 = true then
        impl_GuardOk_L2 impl_RoomOf impl_SenseOk impl_within k (b0, (wrap64 (b1 + 1)), b2, b3, ())
       else
        some false else none
     else
      none
    else
     if ((List.length b2 : Nat) : Int) ≤ 9 then
      (impl_RoomOf k (b2, b3)).bind fun v1 =>
      if 0 ≤ v1 then
       (impl_SenseOk k b3).bind fun v2 =>
       some v2
      else
       some false
     else
      some false
def impl_GuardOk_ (impl_RoomOf : Nat → (List Int × Int) → Option (Int)) (impl_SenseOk : Nat → Int → Option (Bool)) (impl_within : Nat → Int × Int × Int → Option (Bool)) (k : Nat) : (List Int × Int) → Option (Bool)
  | (a0, a1) =>
  impl_GuardOk_L2 impl_RoomOf impl_SenseOk impl_within k (((List.length a0 : Nat) : Int), 0, a0, a1, ())
noncomputable def g_impl_GuardOk : (List Int × Int) → Option (Bool) := evG (impl_GuardOk_ (fun _ => g_impl_RoomOf) (fun _ => g_impl_SenseOk) (fun _ => g_impl_within))
theorem e_impl_GuardOk : ∀ x b, g_impl_GuardOk x = some b → ∃ k, impl_GuardOk_ (fun _ => g_impl_RoomOf) (fun _ => g_impl_SenseOk) (fun _ => g_impl_within) k x = some b := evG_e _
/- impl_RateOk -/
def con_impl_RateOk (f : Nat → (Int × Int × Int) → Option (Bool)) : Con := ⟨[.agg [.int .i64, .int .i64, .int .i64]], 1, [.v false [.bool]], f⟩
def impl_RateOk_ (impl_within : Nat → Int × Int × Int → Option (Bool)) (k : Nat) : (Int × Int × Int) → Option (Bool)
  | (a0, a1, a2) =>
  (impl_within k (a0, (0, 1000000))).bind fun v0 =>
  if v0 = true then
   (impl_within k (a1, (1, 1000000))).bind fun v1 =>
   if v1 = true then
    (impl_within k (a2, (0, (wrap64 (a1 - 1))))).bind fun v2 =>
    some v2
   else
    some false
  else
   some false
noncomputable def g_impl_RateOk : (Int × Int × Int) → Option (Bool) := impl_RateOk_ (fun _ => g_impl_within) 0
theorem e_impl_RateOk : ∀ x b, g_impl_RateOk x = some b → ∃ k, impl_RateOk_ (fun _ => g_impl_within) k x = some b := fun x b h => ⟨0, h⟩
/- impl_PumpOk -/
def con_impl_PumpOk (f : Nat → (Int × Int × Int × Int × Int × Int × Int × Int) → Option (Bool)) : Con := ⟨[.agg [.int .i64, .int .i64, .int .i64, .int .i64, .int .i64, .int .i64, .int .i64, .int .i64]], 1, [.v false [.bool]], f⟩
def impl_PumpOk_ (impl_RateOk : Nat → (Int × Int × Int) → Option (Bool)) (impl_within : Nat → Int × Int × Int → Option (Bool)) (k : Nat) : (Int × Int × Int × Int × Int × Int × Int × Int) → Option (Bool)
  | (a0, a1, a2, a3, a4, a5, a6, a7) =>
  (impl_within k (a0, (0, 3))).bind fun v0 =>
  if v0 = true then
   (impl_RateOk k (a1, (a2, a3))).bind fun v1 =>
   if v1 = true then
    if (wrap64 (3 * a2)) < a1 then
     some false
    else
     (impl_within k (a7, (0, 2))).bind fun v2 =>
     if v2 = true then
      if a7 = 0 then
       if a0 = 1 then
        (impl_within k (a4, (0, 5000))).bind fun v3 =>
        if v3 = true then
         if (true == (decide (0 < a4))) = true then
          (impl_within k (a5, (0, 100))).bind fun v4 =>
          if v4 = true then
           (impl_within k (a6, (0, 1000000000000))).bind fun v5 =>
           some v5
          else
           some false
         else
          some false
        else
         some false
       else
        if a0 = 3 then
         (impl_within k (a4, (0, 5000))).bind fun v6 =>
         if v6 = true then
          if ((decide (a7 = 1)) == (decide (0 < a4))) = true then
           (impl_within k (a5, (0, 100))).bind fun v7 =>
           if v7 = true then
            (impl_within k (a6, (0, 1000000000000))).bind fun v8 =>
            some v8
           else
            some false
          else
           some false
         else
          some false
        else
         (impl_within k (a4, (0, 5000))).bind fun v9 =>
         if v9 = true then
          if (false == (decide (0 < a4))) = true then
           (impl_within k (a5, (0, 100))).bind fun v10 =>
           if v10 = true then
            (impl_within k (a6, (0, 1000000000000))).bind fun v11 =>
            some v11
           else
            some false
          else
           some false
         else
          some false
      else
       if a0 = 3 then
        if a0 = 1 then
         (impl_within k (a4, (0, 5000))).bind fun v12 =>
         if v12 = true then
          if (true == (decide (0 < a4))) = true then
           (impl_within k (a5, (0, 100))).bind fun v13 =>
           if v13 = true then
            (impl_within k (a6, (0, 1000000000000))).bind fun v14 =>
            some v14
           else
            some false
          else
           some false
         else
          some false
        else
         if a0 = 3 then
          (impl_within k (a4, (0, 5000))).bind fun v15 =>
          if v15 = true then
           if ((decide (a7 = 1)) == (decide (0 < a4))) = true then
            (impl_within k (a5, (0, 100))).bind fun v16 =>
            if v16 = true then
             (impl_within k (a6, (0, 1000000000000))).bind fun v17 =>
             some v17
            else
             some false
           else
            some false
          else
           some false
         else
          (impl_within k (a4, (0, 5000))).bind fun v18 =>
          if v18 = true then
           if (false == (decide (0 < a4))) = true then
            (impl_within k (a5, (0, 100))).bind fun v19 =>
            if v19 = true then
             (impl_within k (a6, (0, 1000000000000))).bind fun v20 =>
             some v20
            else
             some false
           else
            some false
          else
           some false
       else
        some false
     else
      some false
   else
    some false
  else
   some false
noncomputable def g_impl_PumpOk : (Int × Int × Int × Int × Int × Int × Int × Int) → Option (Bool) := impl_PumpOk_ (fun _ => g_impl_RateOk) (fun _ => g_impl_within) 0
theorem e_impl_PumpOk : ∀ x b, g_impl_PumpOk x = some b → ∃ k, impl_PumpOk_ (fun _ => g_impl_RateOk) (fun _ => g_impl_within) k x = some b := fun x b h => ⟨0, h⟩
/- impl_DeviceOk -/
def con_impl_DeviceOk (f : Nat → (Int × Int × Int × Int × Int × Int × Int × Int × List Int × Int × Int × Bool × Int × Int × ByteArray × (List (Int × (Int × Int))) × Int) → Option (Bool)) : Con := ⟨[.agg [.int .i64, .int .i64, .int .i64, .int .i64, .int .i64, .int .i64, .int .i64, .int .i64, .sl (.int .i64), .int .i64, .int .i64, .bool, .int .i64, .int .i64, .str, .sl (.pair (.int .i64) (.pair (.int .i64) (.int .i64))), .int .i64]], 1, [.v false [.bool]], f⟩
def impl_DeviceOk_ (impl_GuardOk : Nat → (List Int × Int) → Option (Bool)) (impl_MenuOk : Nat → (Int × Bool × Int × Int × ByteArray) → Option (Bool)) (impl_PumpOk : Nat → (Int × Int × Int × Int × Int × Int × Int × Int) → Option (Bool)) (impl_isNumber : Nat → Int → Option (Bool)) (k : Nat) : (Int × Int × Int × Int × Int × Int × Int × Int × List Int × Int × Int × Bool × Int × Int × ByteArray × (List (Int × (Int × Int))) × Int) → Option (Bool)
  | (a0, a1, a2, a3, a4, a5, a6, a7, a8, a9, a10, a11, a12, a13, a14, a15, a16) =>
  (impl_PumpOk k (a0, (a1, (a2, (a3, (a4, (a5, (a6, a7)))))))).bind fun v0 =>
  if v0 = true then
   (impl_GuardOk k (a8, a9)).bind fun v1 =>
   if v1 = true then
    (impl_MenuOk k (a10, (a11, (a12, (a13, a14))))).bind fun v2 =>
    if v2 = true then
     if ((List.length a15 : Nat) : Int) ≤ 200 then
      (impl_isNumber k a16).bind fun v3 =>
      some v3
     else
      some false
    else
     some false
   else
    some false
  else
   some false
noncomputable def g_impl_DeviceOk : (Int × Int × Int × Int × Int × Int × Int × Int × List Int × Int × Int × Bool × Int × Int × ByteArray × (List (Int × (Int × Int))) × Int) → Option (Bool) := impl_DeviceOk_ (fun _ => g_impl_GuardOk) (fun _ => g_impl_MenuOk) (fun _ => g_impl_PumpOk) (fun _ => g_impl_isNumber) 0
theorem e_impl_DeviceOk : ∀ x b, g_impl_DeviceOk x = some b → ∃ k, impl_DeviceOk_ (fun _ => g_impl_GuardOk) (fun _ => g_impl_MenuOk) (fun _ => g_impl_PumpOk) (fun _ => g_impl_isNumber) k x = some b := fun x b h => ⟨0, h⟩
/- impl_ShowDevice -/
def con_impl_ShowDevice (f : Nat → (Int × Int × Int × Int × Int × Int × Int × Int × List Int × Int × Int × Bool × Int × Int × ByteArray × (List (Int × (Int × Int))) × Int) → Option (ByteArray)) : Con := ⟨[.agg [.int .i64, .int .i64, .int .i64, .int .i64, .int .i64, .int .i64, .int .i64, .int .i64, .sl (.int .i64), .int .i64, .int .i64, .bool, .int .i64, .int .i64, .str, .sl (.pair (.int .i64) (.pair (.int .i64) (.int .i64))), .int .i64]], 1, [.v false [.str]], f⟩
def impl_ShowDevice_ (impl_Decimal : Nat → Int → Option (ByteArray)) (impl_DeviceOk : Nat → (Int × Int × Int × Int × Int × Int × Int × Int × List Int × Int × Int × Bool × Int × Int × ByteArray × (List (Int × (Int × Int))) × Int) → Option (Bool)) (impl_SenseNames : Nat → Int → Option (ByteArray)) (k : Nat) : (Int × Int × Int × Int × Int × Int × Int × Int × List Int × Int × Int × Bool × Int × Int × ByteArray × (List (Int × (Int × Int))) × Int) → Option (ByteArray)
  | (a0, a1, a2, a3, a4, a5, a6, a7, a8, a9, a10, a11, a12, a13, a14, a15, a16) =>
  (impl_DeviceOk k (a0, (a1, (a2, (a3, (a4, (a5, (a6, (a7, (a8, (a9, (a10, (a11, (a12, (a13, (a14, (a15, a16))))))))))))))))).bind fun v0 =>
  if v0 = true then
   (impl_Decimal k a0).bind fun v1 =>
   if ((ByteArray.size (⟨#[115, 116, 97, 116, 101, 32]⟩ : ByteArray) + ByteArray.size v1 : Nat) : Int) ≤ 9223372036854775807 then
    if ((ByteArray.size ((⟨#[115, 116, 97, 116, 101, 32]⟩ : ByteArray) ++ v1) + ByteArray.size (⟨#[32, 103, 105, 118, 101, 110, 32]⟩ : ByteArray) : Nat) : Int) ≤ 9223372036854775807 then (impl_Decimal k a6).bind fun v2 =>
     if ((ByteArray.size (((⟨#[115, 116, 97, 116, 101, 32]⟩ : ByteArray) ++ v1) ++ (⟨#[32, 103, 105, 118, 101, 110, 32]⟩ : ByteArray)) + ByteArray.size v2 : Nat) : Int) ≤ 9223372036854775807 then
      if ((ByteArray.size ((((⟨#[115, 116, 97, 116, 101, 32]⟩ : ByteArray) ++ v1) ++ (⟨#[32, 103, 105, 118, 101, 110, 32]⟩ : ByteArray)) ++ v2) + ByteArray.size (⟨#[32, 108, 101, 102, 116, 32]⟩ : ByteArray) : Nat) : Int) ≤ 9223372036854775807 then (impl_Decimal k a4).bind fun v3 =>
       if ((ByteArray.size (((((⟨#[115, 116, 97, 116, 101, 32]⟩ : ByteArray) ++ v1) ++ (⟨#[32, 103, 105, 118, 101, 110, 32]⟩ : ByteArray)) ++ v2) ++ (⟨#[32, 108, 101, 102, 116, 32]⟩ : ByteArray)) + ByteArray.size v3 : Nat) : Int) ≤ 9223372036854775807 then
        if ((ByteArray.size ((((((⟨#[115, 116, 97, 116, 101, 32]⟩ : ByteArray) ++ v1) ++ (⟨#[32, 103, 105, 118, 101, 110, 32]⟩ : ByteArray)) ++ v2) ++ (⟨#[32, 108, 101, 102, 116, 32]⟩ : ByteArray)) ++ v3) + ByteArray.size (⟨#[32, 97, 108, 97, 114, 109, 32]⟩ : ByteArray) : Nat) : Int) ≤ 9223372036854775807 then (impl_SenseNames k a9).bind fun v4 =>
         if ((ByteArray.size (((((((⟨#[115, 116, 97, 116, 101, 32]⟩ : ByteArray) ++ v1) ++ (⟨#[32, 103, 105, 118, 101, 110, 32]⟩ : ByteArray)) ++ v2) ++ (⟨#[32, 108, 101, 102, 116, 32]⟩ : ByteArray)) ++ v3) ++ (⟨#[32, 97, 108, 97, 114, 109, 32]⟩ : ByteArray)) + ByteArray.size v4 : Nat) : Int) ≤ 9223372036854775807 then
          if ((ByteArray.size ((((((((⟨#[115, 116, 97, 116, 101, 32]⟩ : ByteArray) ++ v1) ++ (⟨#[32, 103, 105, 118, 101, 110, 32]⟩ : ByteArray)) ++ v2) ++ (⟨#[32, 108, 101, 102, 116, 32]⟩ : ByteArray)) ++ v3) ++ (⟨#[32, 97, 108, 97, 114, 109, 32]⟩ : ByteArray)) ++ v4) + ByteArray.size (⟨#[10]⟩ : ByteArray) : Nat) : Int) ≤ 9223372036854775807 then some (((((((((⟨#[115, 116, 97, 116, 101, 32]⟩ : ByteArray) ++ v1) ++ (⟨#[32, 103, 105, 118, 101, 110, 32]⟩ : ByteArray)) ++ v2) ++ (⟨#[32, 108, 101, 102, 116, 32]⟩ : ByteArray)) ++ v3) ++ (⟨#[32, 97, 108, 97, 114, 109, 32]⟩ : ByteArray)) ++ v4) ++ (⟨#[10]⟩ : ByteArray)) else none
         else
          none else none
       else
        none else none
     else
      none else none
   else
    none
  else
   some (⟨#[]⟩ : ByteArray)
noncomputable def g_impl_ShowDevice : (Int × Int × Int × Int × Int × Int × Int × Int × List Int × Int × Int × Bool × Int × Int × ByteArray × (List (Int × (Int × Int))) × Int) → Option (ByteArray) := impl_ShowDevice_ (fun _ => g_impl_Decimal) (fun _ => g_impl_DeviceOk) (fun _ => g_impl_SenseNames) 0
theorem e_impl_ShowDevice : ∀ x b, g_impl_ShowDevice x = some b → ∃ k, impl_ShowDevice_ (fun _ => g_impl_Decimal) (fun _ => g_impl_DeviceOk) (fun _ => g_impl_SenseNames) k x = some b := fun x b h => ⟨0, h⟩
/- impl_copyInts -/
def con_impl_copyInts (f : Nat → List Int → Option (List Int)) : Con := ⟨[.c (.sl (.int .i64))], 1, [.v false [.own (.int .i64) 3]], f⟩
def impl_copyInts_ (k : Nat) : List Int → Option (List Int)
  | a0 =>
  if (((List.length ([] : List Int) + List.length a0 : Nat) : Int) * ((8 : Nat) : Int)) ≤ 140737488355328 then some (([] : List Int) ++ a0) else none
noncomputable def g_impl_copyInts : List Int → Option (List Int) := impl_copyInts_  0
theorem e_impl_copyInts : ∀ x b, g_impl_copyInts x = some b → ∃ k, impl_copyInts_  k x = some b := fun x b h => ⟨0, h⟩
/- impl_copyGuard -/
def con_impl_copyGuard (f : Nat → (List Int × Int) → Option ((List Int × Int))) : Con := ⟨[.agg [.sl (.int .i64), .int .i64]], 1, [.v true [.own (.int .i64) 3, .int .i64]], f⟩
def impl_copyGuard_ (impl_copyInts : Nat → List Int → Option (List Int)) (k : Nat) : (List Int × Int) → Option ((List Int × Int))
  | (a0, a1) =>
  (impl_copyInts k a0).bind fun v0 =>
  some (v0, a1)
noncomputable def g_impl_copyGuard : (List Int × Int) → Option ((List Int × Int)) := impl_copyGuard_ (fun _ => g_impl_copyInts) 0
theorem e_impl_copyGuard : ∀ x b, g_impl_copyGuard x = some b → ∃ k, impl_copyGuard_ (fun _ => g_impl_copyInts) k x = some b := fun x b h => ⟨0, h⟩
/- impl_Pass -/
def con_impl_Pass (f : Nat → (List Int × Int) × Int → Option ((List Int × Int))) : Con := ⟨[.agg [.sl (.int .i64), .int .i64], .c (.int .i64)], 1, [.v true [.own (.int .i64) 3, .int .i64]], f⟩
def impl_Pass_ (impl_GuardOk : Nat → (List Int × Int) → Option (Bool)) (impl_RoomOf : Nat → (List Int × Int) → Option (Int)) (impl_copyGuard : Nat → (List Int × Int) → Option ((List Int × Int))) (k : Nat) : (List Int × Int) × Int → Option ((List Int × Int))
  | ((a0, a1), a2) =>
  (impl_copyGuard k (a0, a1)).bind fun v0 =>
  (impl_GuardOk k (a0, a1)).bind fun v1 =>
  if v1 = true then
   (impl_RoomOf k (a0, a1)).bind fun v2 =>
   if (((List.length [(mn (mx a2 0) v2)] + List.length a0 : Nat) : Int) * ((8 : Nat) : Int)) ≤ 140737488355328 then
    if 0 ≤ (mn ((List.length ([(mn (mx a2 0) v2)] ++ a0) : Nat) : Int) 9) then
     if (mn ((List.length ([(mn (mx a2 0) v2)] ++ a0) : Nat) : Int) 9) ≤ ((List.length ([(mn (mx a2 0) v2)] ++ a0) : Nat) : Int) then some ((List.take (Int.toNat (mn ((List.length ([(mn (mx a2 0) v2)] ++ a0) : Nat) : Int) 9)) ([(mn (mx a2 0) v2)] ++ a0)), v0.2) else none
    else
     none
   else
    none
  else
   some v0
noncomputable def g_impl_Pass : (List Int × Int) × Int → Option ((List Int × Int)) := impl_Pass_ (fun _ => g_impl_GuardOk) (fun _ => g_impl_RoomOf) (fun _ => g_impl_copyGuard) 0
theorem e_impl_Pass : ∀ x b, g_impl_Pass x = some b → ∃ k, impl_Pass_ (fun _ => g_impl_GuardOk) (fun _ => g_impl_RoomOf) (fun _ => g_impl_copyGuard) k x = some b := fun x b h => ⟨0, h⟩
/- impl_StepRate -/
def con_impl_StepRate (f : Nat → (Int × Int × Int) → Option ((Int × Int × Int) × Int)) : Con := ⟨[.agg [.int .i64, .int .i64, .int .i64]], 2, [.v true [.int .i64, .int .i64, .int .i64], .v false [.int .i64]], f⟩
def impl_StepRate_ (impl_RateOk : Nat → (Int × Int × Int) → Option (Bool)) (k : Nat) : (Int × Int × Int) → Option ((Int × Int × Int) × Int)
  | (a0, a1, a2) =>
  (impl_RateOk k (a0, (a1, a2))).bind fun v0 =>
  if v0 = true then
   if a1 = 0 then
    none
   else
    if a1 = 0 then
     none
    else
     some ((a0, (a1, (Int.tmod (wrap64 (a2 + a0)) a1))), (wrap64 (Int.tdiv (wrap64 (a2 + a0)) a1)))
  else
   some ((a0, (a1, a2)), 0)
noncomputable def g_impl_StepRate : (Int × Int × Int) → Option ((Int × Int × Int) × Int) := impl_StepRate_ (fun _ => g_impl_RateOk) 0
theorem e_impl_StepRate : ∀ x b, g_impl_StepRate x = some b → ∃ k, impl_StepRate_ (fun _ => g_impl_RateOk) k x = some b := fun x b h => ⟨0, h⟩
/- impl_Wants -/
def con_impl_Wants (f : Nat → (Int × Int × Int × Int × Int × Int × Int × Int) → Option (Int)) : Con := ⟨[.agg [.int .i64, .int .i64, .int .i64, .int .i64, .int .i64, .int .i64, .int .i64, .int .i64]], 1, [.v false [.int .i64]], f⟩
def impl_Wants_ (impl_PumpOk : Nat → (Int × Int × Int × Int × Int × Int × Int × Int) → Option (Bool)) (impl_StepRate : Nat → (Int × Int × Int) → Option ((Int × Int × Int) × Int)) (k : Nat) : (Int × Int × Int × Int × Int × Int × Int × Int) → Option (Int)
  | (a0, a1, a2, a3, a4, a5, a6, a7) =>
  (impl_PumpOk k (a0, (a1, (a2, (a3, (a4, (a5, (a6, a7)))))))).bind fun v0 =>
  if v0 = true then
   if a0 = 1 then
    (impl_StepRate k (a1, (a2, a3))).bind fun v1 =>
    if a0 = 1 then
     some (wrap64 ((mn v1.2 a4) + (mn a5 3)))
    else
     some (wrap64 (v1.2 + (mn a5 3)))
   else
    if a0 = 2 then
     (impl_StepRate k (a1, (a2, a3))).bind fun v2 =>
     if a0 = 1 then
      some (wrap64 ((mn v2.2 a4) + (mn a5 3)))
     else
      some (wrap64 (v2.2 + (mn a5 3)))
    else
     some 0
  else
   some 0
noncomputable def g_impl_Wants : (Int × Int × Int × Int × Int × Int × Int × Int) → Option (Int) := impl_Wants_ (fun _ => g_impl_PumpOk) (fun _ => g_impl_StepRate) 0
theorem e_impl_Wants : ∀ x b, g_impl_Wants x = some b → ∃ k, impl_Wants_ (fun _ => g_impl_PumpOk) (fun _ => g_impl_StepRate) k x = some b := fun x b h => ⟨0, h⟩
/- impl_Give -/
def con_impl_Give (f : Nat → (Int × Int × Int × Int × Int × Int × Int × Int) × Int → Option ((Int × Int × Int × Int × Int × Int × Int × Int))) : Con := ⟨[.agg [.int .i64, .int .i64, .int .i64, .int .i64, .int .i64, .int .i64, .int .i64, .int .i64], .c (.int .i64)], 1, [.v true [.int .i64, .int .i64, .int .i64, .int .i64, .int .i64, .int .i64, .int .i64, .int .i64]], f⟩
def impl_Give_ (impl_PumpOk : Nat → (Int × Int × Int × Int × Int × Int × Int × Int) → Option (Bool)) (impl_StepRate : Nat → (Int × Int × Int) → Option ((Int × Int × Int) × Int)) (impl_Wants : Nat → (Int × Int × Int × Int × Int × Int × Int × Int) → Option (Int)) (k : Nat) : (Int × Int × Int × Int × Int × Int × Int × Int) × Int → Option ((Int × Int × Int × Int × Int × Int × Int × Int))
  | ((a0, a1, a2, a3, a4, a5, a6, a7), a8) =>
  (impl_PumpOk k (a0, (a1, (a2, (a3, (a4, (a5, (a6, a7)))))))).bind fun v0 =>
  if v0 = true then
   if a0 = 1 then
    (impl_Wants k (a0, (a1, (a2, (a3, (a4, (a5, (a6, a7)))))))).bind fun v1 =>
    (impl_StepRate k (a1, (a2, a3))).bind fun v2 =>
    if a0 = 2 then
     some (a0, (v2.1.1, (v2.1.2.1, (v2.1.2.2, (a4, ((wrap64 (a5 - (mn (mn (mn (mx a8 0) v1) a5) 3))), ((mn (wrap64 (a6 + (mn (mx a8 0) v1))) 1000000000000), a7)))))))
    else
     if (wrap64 (a4 - (wrap64 ((mn (mx a8 0) v1) - (mn (mn (mn (mx a8 0) v1) a5) 3))))) = 0 then
      some (2, (1, (50, (0, ((wrap64 (a4 - (wrap64 ((mn (mx a8 0) v1) - (mn (mn (mn (mx a8 0) v1) a5) 3))))), ((wrap64 (a5 - (mn (mn (mn (mx a8 0) v1) a5) 3))), ((mn (wrap64 (a6 + (mn (mx a8 0) v1))) 1000000000000), a7)))))))
     else
      some (a0, (v2.1.1, (v2.1.2.1, (v2.1.2.2, ((wrap64 (a4 - (wrap64 ((mn (mx a8 0) v1) - (mn (mn (mn (mx a8 0) v1) a5) 3))))), ((wrap64 (a5 - (mn (mn (mn (mx a8 0) v1) a5) 3))), ((mn (wrap64 (a6 + (mn (mx a8 0) v1))) 1000000000000), a7)))))))
   else
    if a0 = 2 then
     (impl_Wants k (a0, (a1, (a2, (a3, (a4, (a5, (a6, a7)))))))).bind fun v3 =>
     (impl_StepRate k (a1, (a2, a3))).bind fun v4 =>
     if a0 = 2 then
      some (a0, (v4.1.1, (v4.1.2.1, (v4.1.2.2, (a4, ((wrap64 (a5 - (mn (mn (mn (mx a8 0) v3) a5) 3))), ((mn (wrap64 (a6 + (mn (mx a8 0) v3))) 1000000000000), a7)))))))
     else
      if (wrap64 (a4 - (wrap64 ((mn (mx a8 0) v3) - (mn (mn (mn (mx a8 0) v3) a5) 3))))) = 0 then
       some (2, (1, (50, (0, ((wrap64 (a4 - (wrap64 ((mn (mx a8 0) v3) - (mn (mn (mn (mx a8 0) v3) a5) 3))))), ((wrap64 (a5 - (mn (mn (mn (mx a8 0) v3) a5) 3))), ((mn (wrap64 (a6 + (mn (mx a8 0) v3))) 1000000000000), a7)))))))
      else
       some (a0, (v4.1.1, (v4.1.2.1, (v4.1.2.2, ((wrap64 (a4 - (wrap64 ((mn (mx a8 0) v3) - (mn (mn (mn (mx a8 0) v3) a5) 3))))), ((wrap64 (a5 - (mn (mn (mn (mx a8 0) v3) a5) 3))), ((mn (wrap64 (a6 + (mn (mx a8 0) v3))) 1000000000000), a7)))))))
    else
     some (a0, (a1, (a2, (a3, (a4, (a5, (a6, a7)))))))
  else
   some (a0, (a1, (a2, (a3, (a4, (a5, (a6, a7)))))))
noncomputable def g_impl_Give : (Int × Int × Int × Int × Int × Int × Int × Int) × Int → Option ((Int × Int × Int × Int × Int × Int × Int × Int)) := impl_Give_ (fun _ => g_impl_PumpOk) (fun _ => g_impl_StepRate) (fun _ => g_impl_Wants) 0
theorem e_impl_Give : ∀ x b, g_impl_Give x = some b → ∃ k, impl_Give_ (fun _ => g_impl_PumpOk) (fun _ => g_impl_StepRate) (fun _ => g_impl_Wants) k x = some b := fun x b h => ⟨0, h⟩
/- impl_Allow -/
def con_impl_Allow (f : Nat → (List Int × Int) × Int → Option (Int)) : Con := ⟨[.agg [.sl (.int .i64), .int .i64], .c (.int .i64)], 1, [.v false [.int .i64]], f⟩
def impl_Allow_ (impl_GuardOk : Nat → (List Int × Int) → Option (Bool)) (impl_RoomOf : Nat → (List Int × Int) → Option (Int)) (k : Nat) : (List Int × Int) × Int → Option (Int)
  | ((a0, a1), a2) =>
  (impl_GuardOk k (a0, a1)).bind fun v0 =>
  if v0 = true then
   if a1 = 0 then
    (impl_RoomOf k (a0, a1)).bind fun v1 =>
    some (mx (mn a2 v1) 0)
   else
    some 0
  else
   some 0
noncomputable def g_impl_Allow : (List Int × Int) × Int → Option (Int) := impl_Allow_ (fun _ => g_impl_GuardOk) (fun _ => g_impl_RoomOf) 0
theorem e_impl_Allow : ∀ x b, g_impl_Allow x = some b → ∃ k, impl_Allow_ (fun _ => g_impl_GuardOk) (fun _ => g_impl_RoomOf) k x = some b := fun x b h => ⟨0, h⟩
/- impl_Feel -/
def con_impl_Feel (f : Nat → (List Int × Int) × Int × Bool → Option ((List Int × Int))) : Con := ⟨[.agg [.sl (.int .i64), .int .i64], .c (.int .i64), .c (.bool)], 1, [.v true [.own (.int .i64) 3, .int .i64]], f⟩
def impl_Feel_ (impl_GuardOk : Nat → (List Int × Int) → Option (Bool)) (impl_SenseOk : Nat → Int → Option (Bool)) (impl_copyGuard : Nat → (List Int × Int) → Option ((List Int × Int))) (k : Nat) : (List Int × Int) × Int × Bool → Option ((List Int × Int))
  | ((a0, a1), a2, a3) =>
  (impl_copyGuard k (a0, a1)).bind fun v0 =>
  (impl_GuardOk k (a0, a1)).bind fun v1 =>
  if v1 = true then
   (impl_SenseOk k a2).bind fun v2 =>
   if v2 = true then
    if a3 = true then
     some (v0.1, a2)
    else
     some (v0.1, (ior .i64 v0.2 a2))
   else
    some v0
  else
   some v0
noncomputable def g_impl_Feel : (List Int × Int) × Int × Bool → Option ((List Int × Int)) := impl_Feel_ (fun _ => g_impl_GuardOk) (fun _ => g_impl_SenseOk) (fun _ => g_impl_copyGuard) 0
theorem e_impl_Feel : ∀ x b, g_impl_Feel x = some b → ∃ k, impl_Feel_ (fun _ => g_impl_GuardOk) (fun _ => g_impl_SenseOk) (fun _ => g_impl_copyGuard) k x = some b := fun x b h => ⟨0, h⟩
/- impl_isSeen -/
def con_impl_isSeen (f : Nat → ((List (Int × (Int × (Int × Int))))) → Option (Bool)) : Con := ⟨[.c (.sl (.pair (.int .i64) (.pair (.int .i64) (.pair (.int .i64) (.int .i64)))))], 1, [.v false [.bool]], f⟩
def impl_isSeen_L2 : Nat → Int × Int × (List (Int × (Int × (Int × Int)))) × Unit → Option (Bool)
  | 0, _ => none
  | k + 1, (b0, b1, b2, ()) =>
    if b1 < b0 then
     if 0 ≤ b1 then
      if b1 < ((List.length b2 : Nat) : Int) then
       if (List.getD b2 (Int.toNat b1) (0, (0, (0, 0)))).1 = 5 then
        some true
       else
        impl_isSeen_L2 k (b0, (wrap64 (b1 + 1)), b2, ())
      else
       none
     else
      none
    else
     some false
def impl_isSeen_ (k : Nat) : ((List (Int × (Int × (Int × Int))))) → Option (Bool)
  | a0 =>
  impl_isSeen_L2 k (((List.length a0 : Nat) : Int), 0, a0, ())
noncomputable def g_impl_isSeen : ((List (Int × (Int × (Int × Int))))) → Option (Bool) := evG (impl_isSeen_ )
theorem e_impl_isSeen : ∀ x b, g_impl_isSeen x = some b → ∃ k, impl_isSeen_  k x = some b := evG_e _
/- impl_OrderOk -/
def con_impl_OrderOk (f : Nat → (Int × Int × Int × Int) → Option (Bool)) : Con := ⟨[.agg [.int .i64, .int .i64, .int .i64, .int .i64]], 1, [.v false [.bool]], f⟩
def impl_OrderOk_ (impl_within : Nat → Int × Int × Int → Option (Bool)) (k : Nat) : (Int × Int × Int × Int) → Option (Bool)
  | (a0, a1, a2, a3) =>
  if a0 = 1 then
   (impl_within k (a2, (1, 1000))).bind fun v0 =>
   if v0 = true then
    (impl_within k (a1, (1, (mn 1000 (wrap64 (3 * a2)))))).bind fun v1 =>
    if v1 = true then
     (impl_within k (a3, (1, 5000))).bind fun v2 =>
     some v2
    else
     some false
   else
    some false
  else
   if a0 = 2 then
    if a0 = 2 then
     if a1 = 0 then
      if a2 = 0 then
       if a3 = a3 then
        (impl_within k (a3, (1, 100))).bind fun v3 =>
        some v3
       else
        some false
      else
       some false
     else
      some false
    else
     some false
   else
    (impl_within k (a0, (3, 6))).bind fun v4 =>
    if v4 = true then
     some ((decide (a0 = a0)) && ((decide (a1 = 0)) && ((decide (a2 = 0)) && (decide (a3 = 0)))))
    else
     some false
noncomputable def g_impl_OrderOk : (Int × Int × Int × Int) → Option (Bool) := impl_OrderOk_ (fun _ => g_impl_within) 0
theorem e_impl_OrderOk : ∀ x b, g_impl_OrderOk x = some b → ∃ k, impl_OrderOk_ (fun _ => g_impl_within) k x = some b := fun x b h => ⟨0, h⟩
/- impl_ReadVar -/
def con_impl_ReadVar (f : Nat → ByteArray × Int → Option (Int × Int × Bool)) : Con := ⟨[.c (.str), .c (.int .i64)], 3, [.v false [.int .i64], .v false [.int .i64], .v false [.bool]], f⟩
def impl_ReadVar_L5 (impl_within : Nat → Int × Int × Int → Option (Bool)) : Nat → ByteArray × Int × Int × Int × Unit → Option (Int × Int × Bool)
  | 0, _ => none
  | k + 1, (b0, b1, b2, b3, ()) =>
    if b3 < 5 then
     if (wrap64 (b1 + b3)) < ((ByteArray.size b0 : Nat) : Int) then
      if 0 ≤ (wrap64 (b1 + b3)) then
       if (wrap64 (b1 + b3)) < ((ByteArray.size b0 : Nat) : Int) then
        if 128 = 0 then
         none
        else
         if 0 ≤ (wrap64 (7 * b3)) then
          if 127 < (wrap64 (byt b0 (wrap64 (b1 + b3)))) then
           impl_ReadVar_L5 impl_within k (b0, b1, (wrap64 (b2 + (wr .i64 ((Int.tmod (wrap64 (byt b0 (wrap64 (b1 + b3)))) 128) * 2 ^ (min (Int.toNat (wrap64 (7 * b3))) (IntKind.bits .i64)))))), (wrap64 (b3 + 1)), ())
          else
           if 0 < b3 then
            if (wrap64 (byt b0 (wrap64 (b1 + b3)))) = 0 then
             some (0, (0, false))
            else
             if 1000000000 < (wrap64 (b2 + (wr .i64 ((Int.tmod (wrap64 (byt b0 (wrap64 (b1 + b3)))) 128) * 2 ^ (min (Int.toNat (wrap64 (7 * b3))) (IntKind.bits .i64)))))) then
              some (0, (0, false))
             else
              some ((wrap64 (b2 + (wr .i64 ((Int.tmod (wrap64 (byt b0 (wrap64 (b1 + b3)))) 128) * 2 ^ (min (Int.toNat (wrap64 (7 * b3))) (IntKind.bits .i64)))))), ((wrap64 ((wrap64 (b1 + b3)) + 1)), true))
           else
            if 1000000000 < (wrap64 (b2 + (wr .i64 ((Int.tmod (wrap64 (byt b0 (wrap64 (b1 + b3)))) 128) * 2 ^ (min (Int.toNat (wrap64 (7 * b3))) (IntKind.bits .i64)))))) then
             some (0, (0, false))
            else
             some ((wrap64 (b2 + (wr .i64 ((Int.tmod (wrap64 (byt b0 (wrap64 (b1 + b3)))) 128) * 2 ^ (min (Int.toNat (wrap64 (7 * b3))) (IntKind.bits .i64)))))), ((wrap64 ((wrap64 (b1 + b3)) + 1)), true))
         else
          none
       else
        none
      else
       none
     else
      some (0, (0, false))
    else
     some (0, (0, false))
def impl_ReadVar_ (impl_within : Nat → Int × Int × Int → Option (Bool)) (k : Nat) : ByteArray × Int → Option (Int × Int × Bool)
  | (a0, a1) =>
  (impl_within k (a1, (0, ((ByteArray.size a0 : Nat) : Int)))).bind fun v0 =>
  if v0 = true then
   impl_ReadVar_L5 impl_within k (a0, a1, 0, 0, ())
  else
   some (0, (0, false))
noncomputable def g_impl_ReadVar : ByteArray × Int → Option (Int × Int × Bool) := evG (impl_ReadVar_ (fun _ => g_impl_within))
theorem e_impl_ReadVar : ∀ x b, g_impl_ReadVar x = some b → ∃ k, impl_ReadVar_ (fun _ => g_impl_within) k x = some b := evG_e _
/- impl_reader__number -/
def con_impl_reader__number (f : Nat → (ByteArray × Int × Bool) → Option (Int × (ByteArray × Int × Bool))) : Con := ⟨[.ptr [.str, .int .i64, .bool] 129], 1, [.v false [.int .i64], .box [.str, .int .i64, .bool] 129], f⟩
def impl_reader__number_ (impl_ReadVar : Nat → ByteArray × Int → Option (Int × Int × Bool)) (k : Nat) : (ByteArray × Int × Bool) → Option (Int × (ByteArray × Int × Bool))
  | (a0, a1, a2) =>
  (impl_ReadVar k (a0, a1)).bind fun v0 =>
  if a2 = true then
   some (0, (a0, (a1, true)))
  else
   if v0.2.2 = true then
    some (v0.1, (a0, (v0.2.1, a2)))
   else
    some (0, (a0, (a1, true)))
noncomputable def g_impl_reader__number : (ByteArray × Int × Bool) → Option (Int × (ByteArray × Int × Bool)) := impl_reader__number_ (fun _ => g_impl_ReadVar) 0
theorem e_impl_reader__number : ∀ x b, g_impl_reader__number x = some b → ∃ k, impl_reader__number_ (fun _ => g_impl_ReadVar) k x = some b := fun x b h => ⟨0, h⟩
/- impl_highFirst -/
def con_impl_highFirst (f : Nat → Int × Int → Option (ByteArray)) : Con := ⟨[.c (.int .i64), .c (.int .i64)], 1, [.v false [.str]], f⟩
def impl_highFirst_L3 : Nat → Int × Int × List Int × Unit → Option (ByteArray)
  | 0, _ => none
  | k + 1, (b0, b1, b2, ()) =>
    if 0 ≤ b1 then
     if 0 ≤ b1 then
      if b1 < ((List.length b2 : Nat) : Int) then
       if 0 ≤ 8 then impl_highFirst_L3 k ((Int.fdiv b0 (2 ^ (min (Int.toNat 8) (IntKind.bits .i64)))), (wrap64 (b1 - 1)), (List.set b2 (Int.toNat b1) (wr .u8 (iand .i64 b0 255))), ()) else none
      else
       none
     else
      none
    else
     some (bstr b2)
def impl_highFirst_ (k : Nat) : Int × Int → Option (ByteArray)
  | (a0, a1) =>
  if a1 = a1 then
   if 0 ≤ a1 then
    if (a1 * ((1 : Nat) : Int)) ≤ 140737488355328 then impl_highFirst_L3 k (a0, (wrap64 (a1 - 1)), (List.replicate (Int.toNat a1) 0), ()) else none
   else
    none
  else
   none
noncomputable def g_impl_highFirst : Int × Int → Option (ByteArray) := evG (impl_highFirst_ )
theorem e_impl_highFirst : ∀ x b, g_impl_highFirst x = some b → ∃ k, impl_highFirst_  k x = some b := evG_e _
/- impl_SumMore -/
def con_impl_SumMore (f : Nat → Int × ByteArray → Option (Int)) : Con := ⟨[.c (.int .u32), .c (.str)], 1, [.v false [.int .u32]], f⟩
mutual
def impl_SumMore_L2 : Nat → Int × ByteArray × Int × Unit → Option (Int)
  | 0, _ => none
  | k + 1, (b0, b1, b2, ()) =>
    if b2 < ((ByteArray.size b1 : Nat) : Int) then
     if 0 ≤ b2 then
      if b2 < ((ByteArray.size b1 : Nat) : Int) then impl_SumMore_L6 k ((ixor .u32 b0 (wr .u32 (byt b1 b2))), b1, b2, 0, ()) else none
     else
      none
    else
     some b0
def impl_SumMore_L6 : Nat → Int × ByteArray × Int × Int × Unit → Option (Int)
  | 0, _ => none
  | k + 1, (b0, b1, b2, b3, ()) =>
    if b3 < 8 then
     if 2 = 0 then
      none
     else
      if 2 = 0 then
       none
      else
       if (Int.tmod b0 2) = 1 then
        impl_SumMore_L6 k ((ixor .u32 (wr .u32 (Int.tdiv b0 2)) 3558460437), b1, b2, (wrap64 (b3 + 1)), ())
       else
        impl_SumMore_L6 k ((wr .u32 (Int.tdiv b0 2)), b1, b2, (wrap64 (b3 + 1)), ())
    else
     impl_SumMore_L2 k (b0, b1, (wrap64 (b2 + 1)), ())
end
def impl_SumMore_ (k : Nat) : Int × ByteArray → Option (Int)
  | (a0, a1) =>
  impl_SumMore_L2 k (a0, a1, 0, ())
noncomputable def g_impl_SumMore : Int × ByteArray → Option (Int) := evG (impl_SumMore_ )
theorem e_impl_SumMore : ∀ x b, g_impl_SumMore x = some b → ∃ k, impl_SumMore_  k x = some b := evG_e _
/- impl_SumOf -/
def con_impl_SumOf (f : Nat → ByteArray → Option (Int)) : Con := ⟨[.c (.str)], 1, [.v false [.int .u32]], f⟩
def impl_SumOf_ (impl_SumMore : Nat → Int × ByteArray → Option (Int)) (k : Nat) : ByteArray → Option (Int)
  | a0 =>
  (impl_SumMore k (4294967295, a0)).bind fun v0 =>
  some v0
noncomputable def g_impl_SumOf : ByteArray → Option (Int) := impl_SumOf_ (fun _ => g_impl_SumMore) 0
theorem e_impl_SumOf : ∀ x b, g_impl_SumOf x = some b → ∃ k, impl_SumOf_ (fun _ => g_impl_SumMore) k x = some b := fun x b h => ⟨0, h⟩
/- impl_Sealed -/
def con_impl_Sealed (f : Nat → ByteArray → Option (ByteArray × Bool)) : Con := ⟨[.c (.str)], 2, [.v false [.str], .v false [.bool]], f⟩
def impl_Sealed_ (impl_SumOf : Nat → ByteArray → Option (Int)) (impl_highFirst : Nat → Int × Int → Option (ByteArray)) (k : Nat) : ByteArray → Option (ByteArray × Bool)
  | a0 =>
  if 20000 < ((ByteArray.size a0 : Nat) : Int) then
   some ((⟨#[]⟩ : ByteArray), false)
  else
   (impl_SumOf k a0).bind fun v0 =>
   (impl_highFirst k ((wrap64 v0), 4)).bind fun v1 =>
   if ((ByteArray.size a0 + ByteArray.size v1 : Nat) : Int) ≤ 9223372036854775807 then some ((a0 ++ v1), true) else none
noncomputable def g_impl_Sealed : ByteArray → Option (ByteArray × Bool) := impl_Sealed_ (fun _ => g_impl_SumOf) (fun _ => g_impl_highFirst) 0
theorem e_impl_Sealed : ∀ x b, g_impl_Sealed x = some b → ∃ k, impl_Sealed_ (fun _ => g_impl_SumOf) (fun _ => g_impl_highFirst) k x = some b := fun x b h => ⟨0, h⟩
/- impl_Unsealed -/
def con_impl_Unsealed (f : Nat → ByteArray → Option (ByteArray × Bool)) : Con := ⟨[.c (.str)], 2, [.v false [.str], .v false [.bool]], f⟩
def impl_Unsealed_ (impl_Sealed : Nat → ByteArray → Option (ByteArray × Bool)) (k : Nat) : ByteArray → Option (ByteArray × Bool)
  | a0 =>
  if (wrap64 (((ByteArray.size a0 : Nat) : Int) - 4)) < 0 then
   some ((⟨#[]⟩ : ByteArray), false)
  else
   if 0 ≤ (wrap64 (((ByteArray.size a0 : Nat) : Int) - 4)) then
    if (wrap64 (((ByteArray.size a0 : Nat) : Int) - 4)) ≤ ((ByteArray.size a0 : Nat) : Int) then (impl_Sealed k (ByteArray.extract a0 (Int.toNat 0) (Int.toNat (wrap64 (((ByteArray.size a0 : Nat) : Int) - 4))))).bind fun v0 =>
     if v0.2 = true then
      if v0.1 = a0 then
       if 0 ≤ (wrap64 (((ByteArray.size a0 : Nat) : Int) - 4)) then
        if (wrap64 (((ByteArray.size a0 : Nat) : Int) - 4)) ≤ ((ByteArray.size a0 : Nat) : Int) then some ((ByteArray.extract a0 (Int.toNat 0) (Int.toNat (wrap64 (((ByteArray.size a0 : Nat) : Int) - 4)))), true) else none
       else
        none
      else
       some ((⟨#[]⟩ : ByteArray), false)
     else
      some ((⟨#[]⟩ : ByteArray), false) else none
   else
    none
noncomputable def g_impl_Unsealed : ByteArray → Option (ByteArray × Bool) := impl_Unsealed_ (fun _ => g_impl_Sealed) 0
theorem e_impl_Unsealed : ∀ x b, g_impl_Unsealed x = some b → ∃ k, impl_Unsealed_ (fun _ => g_impl_Sealed) k x = some b := fun x b h => ⟨0, h⟩
/- impl_ReadOrder -/
def con_impl_ReadOrder (f : Nat → ByteArray → Option ((Int × Int × Int × Int) × Bool)) : Con := ⟨[.c (.str)], 2, [.v true [.int .i64, .int .i64, .int .i64, .int .i64], .v false [.bool]], f⟩
def impl_ReadOrder_ (impl_OrderOk : Nat → (Int × Int × Int × Int) → Option (Bool)) (impl_Unsealed : Nat → ByteArray → Option (ByteArray × Bool)) (impl_reader__number : Nat → (ByteArray × Int × Bool) → Option (Int × (ByteArray × Int × Bool))) (k : Nat) : ByteArray → Option ((Int × Int × Int × Int) × Bool)
  | a0 =>
  (impl_Unsealed k a0).bind fun v0 =>
  if v0.2 = true then
   if v0.1 = (⟨#[]⟩ : ByteArray) then
    some ((0, (0, (0, 0))), false)
   else
    if 0 ≤ 0 then
     if 0 < ((ByteArray.size v0.1 : Nat) : Int) then (impl_reader__number k (v0.1, (1, false))).bind fun v1 =>
      (impl_reader__number k v1.2).bind fun v2 =>
      (impl_reader__number k v2.2).bind fun v3 =>
      if v3.2.2.2 = true then
       some ((0, (0, (0, 0))), false)
      else
       if v3.2.2.1 = ((ByteArray.size v0.1 : Nat) : Int) then
        (impl_OrderOk k ((wrap64 (byt v0.1 0)), (v1.1, (v2.1, v3.1)))).bind fun v4 =>
        if v4 = true then
         some (((wrap64 (byt v0.1 0)), (v1.1, (v2.1, v3.1))), true)
        else
         some ((0, (0, (0, 0))), false)
       else
        some ((0, (0, (0, 0))), false) else none
    else
     none
  else
   some ((0, (0, (0, 0))), false)
noncomputable def g_impl_ReadOrder : ByteArray → Option ((Int × Int × Int × Int) × Bool) := impl_ReadOrder_ (fun _ => g_impl_OrderOk) (fun _ => g_impl_Unsealed) (fun _ => g_impl_reader__number) 0
theorem e_impl_ReadOrder : ∀ x b, g_impl_ReadOrder x = some b → ∃ k, impl_ReadOrder_ (fun _ => g_impl_OrderOk) (fun _ => g_impl_Unsealed) (fun _ => g_impl_reader__number) k x = some b := fun x b h => ⟨0, h⟩
/- impl_Take -/
def con_impl_Take (f : Nat → (Int × Int × Int × Int × Int × Int × Int × Int) × (Int × Int × Int × Int) → Option ((Int × Int × Int × Int × Int × Int × Int × Int) × Bool)) : Con := ⟨[.agg [.int .i64, .int .i64, .int .i64, .int .i64, .int .i64, .int .i64, .int .i64, .int .i64], .agg [.int .i64, .int .i64, .int .i64, .int .i64]], 2, [.v true [.int .i64, .int .i64, .int .i64, .int .i64, .int .i64, .int .i64, .int .i64, .int .i64], .v false [.bool]], f⟩
def impl_Take_ (impl_OrderOk : Nat → (Int × Int × Int × Int) → Option (Bool)) (impl_PumpOk : Nat → (Int × Int × Int × Int × Int × Int × Int × Int) → Option (Bool)) (k : Nat) : (Int × Int × Int × Int × Int × Int × Int × Int) × (Int × Int × Int × Int) → Option ((Int × Int × Int × Int × Int × Int × Int × Int) × Bool)
  | ((a0, a1, a2, a3, a4, a5, a6, a7), (a8, a9, a10, a11)) =>
  (impl_PumpOk k (a0, (a1, (a2, (a3, (a4, (a5, (a6, a7)))))))).bind fun v0 =>
  if v0 = true then
   (impl_OrderOk k (a8, (a9, (a10, a11)))).bind fun v1 =>
   if v1 = true then
    if a8 = 1 then
     if a0 = 0 then
      some ((1, (a9, (a10, (0, (a11, (a5, (a6, a7))))))), true)
     else
      if a0 = 2 then
       some ((1, (a9, (a10, (0, (a11, (a5, (a6, a7))))))), true)
      else
       some ((a0, (a1, (a2, (a3, (a4, (a5, (a6, a7))))))), false)
    else
     if a8 = 2 then
      if a0 = 1 then
       if a5 = 0 then
        some ((a0, (a1, (a2, (a3, (a4, (a11, (a6, a7))))))), true)
       else
        some ((a0, (a1, (a2, (a3, (a4, (a5, (a6, a7))))))), false)
      else
       if a0 = 2 then
        if a5 = 0 then
         some ((a0, (a1, (a2, (a3, (a4, (a11, (a6, a7))))))), true)
        else
         some ((a0, (a1, (a2, (a3, (a4, (a5, (a6, a7))))))), false)
       else
        some ((a0, (a1, (a2, (a3, (a4, (a5, (a6, a7))))))), false)
     else
      if a8 = 3 then
       if a0 = 1 then
        some ((3, (a1, (a2, (a3, (a4, (a5, (a6, a0))))))), true)
       else
        if a0 = 2 then
         some ((3, (a1, (a2, (a3, (a4, (a5, (a6, a0))))))), true)
        else
         some ((a0, (a1, (a2, (a3, (a4, (a5, (a6, a7))))))), false)
      else
       if a8 = 4 then
        if a0 = 3 then
         some ((a7, (a1, (a2, (a3, (a4, (a5, (a6, 0))))))), true)
        else
         some ((a0, (a1, (a2, (a3, (a4, (a5, (a6, a7))))))), false)
       else
        if a8 = 6 then
         some ((0, (a1, (a2, (a3, (0, (0, (a6, 0))))))), true)
        else
         some ((a0, (a1, (a2, (a3, (a4, (a5, (a6, a7))))))), false)
   else
    some ((a0, (a1, (a2, (a3, (a4, (a5, (a6, a7))))))), false)
  else
   some ((a0, (a1, (a2, (a3, (a4, (a5, (a6, a7))))))), false)
noncomputable def g_impl_Take : (Int × Int × Int × Int × Int × Int × Int × Int) × (Int × Int × Int × Int) → Option ((Int × Int × Int × Int × Int × Int × Int × Int) × Bool) := impl_Take_ (fun _ => g_impl_OrderOk) (fun _ => g_impl_PumpOk) 0
theorem e_impl_Take : ∀ x b, g_impl_Take x = some b → ∃ k, impl_Take_ (fun _ => g_impl_OrderOk) (fun _ => g_impl_PumpOk) k x = some b := fun x b h => ⟨0, h⟩
/- impl_Device__order -/
def con_impl_Device__order (f : Nat → (Int × Int × Int × Int × Int × Int × Int × Int × List Int × Int × Int × Bool × Int × Int × ByteArray × (List (Int × (Int × Int))) × Int) × (Int × Int × Int × Int) → Option (Bool × (Int × Int × Int × Int × Int × Int × Int × Int × Unit × Int × Int × Bool × Int × Int × ByteArray × Unit × Int))) : Con := ⟨[.ptr [.int .i64, .int .i64, .int .i64, .int .i64, .int .i64, .int .i64, .int .i64, .int .i64, .sl (.int .i64), .int .i64, .int .i64, .bool, .int .i64, .int .i64, .str, .sl (.pair (.int .i64) (.pair (.int .i64) (.int .i64))), .int .i64] 43, .agg [.int .i64, .int .i64, .int .i64, .int .i64]], 1, [.v false [.bool], .box [.int .i64, .int .i64, .int .i64, .int .i64, .int .i64, .int .i64, .int .i64, .int .i64, .keep, .int .i64, .int .i64, .bool, .int .i64, .int .i64, .str, .keep, .int .i64] 43], f⟩
def impl_Device__order_ (impl_Take : Nat → (Int × Int × Int × Int × Int × Int × Int × Int) × (Int × Int × Int × Int) → Option ((Int × Int × Int × Int × Int × Int × Int × Int) × Bool)) (k : Nat) : (Int × Int × Int × Int × Int × Int × Int × Int × List Int × Int × Int × Bool × Int × Int × ByteArray × (List (Int × (Int × Int))) × Int) × (Int × Int × Int × Int) → Option (Bool × (Int × Int × Int × Int × Int × Int × Int × Int × Unit × Int × Int × Bool × Int × Int × ByteArray × Unit × Int))
  | ((a0, a1, a2, a3, a4, a5, a6, a7, a8, a9, a10, a11, a12, a13, a14, a15, a16), (a17, a18, a19, a20)) =>
  if a17 = 5 then
   some (true, (a0, (a1, (a2, (a3, (a4, (a5, (a6, (a7, ((), (a9, (a10, (a11, (a12, (a13, (a14, ((), a16)))))))))))))))))
  else
   (impl_Take k ((a0, (a1, (a2, (a3, (a4, (a5, (a6, a7))))))), (a17, (a18, (a19, a20))))).bind fun v0 =>
   some (v0.2, (v0.1.1, (v0.1.2.1, (v0.1.2.2.1, (v0.1.2.2.2.1, (v0.1.2.2.2.2.1, (v0.1.2.2.2.2.2.1, (v0.1.2.2.2.2.2.2.1, (v0.1.2.2.2.2.2.2.2, ((), (a9, (a10, (a11, (a12, (a13, (a14, ((), a16)))))))))))))))))
noncomputable def g_impl_Device__order : (Int × Int × Int × Int × Int × Int × Int × Int × List Int × Int × Int × Bool × Int × Int × ByteArray × (List (Int × (Int × Int))) × Int) × (Int × Int × Int × Int) → Option (Bool × (Int × Int × Int × Int × Int × Int × Int × Int × Unit × Int × Int × Bool × Int × Int × ByteArray × Unit × Int)) := impl_Device__order_ (fun _ => g_impl_Take) 0
theorem e_impl_Device__order : ∀ x b, g_impl_Device__order x = some b → ∃ k, impl_Device__order_ (fun _ => g_impl_Take) k x = some b := fun x b h => ⟨0, h⟩
/- impl_typed -/
def con_impl_typed (f : Nat → ByteArray → Option (Int)) : Con := ⟨[.c (.str)], 1, [.v false [.int .i64]], f⟩
def impl_typed_L3 : Nat → ByteArray × Int × Int × Int × Unit → Option (Int)
  | 0, _ => none
  | k + 1, (b0, b1, b2, b3, ()) =>
    if b3 < b2 then
     if 0 ≤ b3 then
      if b3 < ((ByteArray.size b0 : Nat) : Int) then impl_typed_L3 k (b0, (wrap64 ((wrap64 (10 * b1)) + (wrap64 (wr .u8 ((byt b0 b3) - 48))))), b2, (wrap64 (b3 + 1)), ()) else none
     else
      none
    else
     some b1
def impl_typed_ (k : Nat) : ByteArray → Option (Int)
  | a0 =>
  impl_typed_L3 k (a0, 0, ((ByteArray.size a0 : Nat) : Int), 0, ())
noncomputable def g_impl_typed : ByteArray → Option (Int) := evG (impl_typed_ )
theorem e_impl_typed : ∀ x b, g_impl_typed x = some b → ∃ k, impl_typed_  k x = some b := evG_e _
/- impl_Menu__enter -/
def con_impl_Menu__enter (f : Nat → (Int × Bool × Int × Int × ByteArray) → Option ((Int × Bool × Int × Int × ByteArray) × (Int × Int × Int × Int) × Bool)) : Con := ⟨[.agg [.int .i64, .bool, .int .i64, .int .i64, .str]], 3, [.v true [.int .i64, .bool, .int .i64, .int .i64, .str], .v true [.int .i64, .int .i64, .int .i64, .int .i64], .v false [.bool]], f⟩
def impl_Menu__enter_ (impl_MenuNew : Nat → Unit → Option ((Int × Bool × Int × Int × ByteArray))) (impl_OrderOk : Nat → (Int × Int × Int × Int) → Option (Bool)) (impl_typed : Nat → ByteArray → Option (Int)) (k : Nat) : (Int × Bool × Int × Int × ByteArray) → Option ((Int × Bool × Int × Int × ByteArray) × (Int × Int × Int × Int) × Bool)
  | (a0, a1, a2, a3, a4) =>
  (impl_typed k a4).bind fun v0 =>
  if a0 = 2 then
   some ((3, (a1, (v0, (a3, (⟨#[]⟩ : ByteArray))))), ((0, (0, (0, 0))), false))
  else
   if a0 = 3 then
    some ((4, (a1, (a2, (v0, (⟨#[]⟩ : ByteArray))))), ((0, (0, (0, 0))), false))
   else
    if a1 = true then
     (impl_OrderOk k (2, (0, (0, v0)))).bind fun v1 =>
     if v1 = true then
      (impl_MenuNew k ()).bind fun v2 =>
      some (v2, ((2, (0, (0, v0))), true))
     else
      (impl_MenuNew k ()).bind fun v3 =>
      some (v3, ((0, (0, (0, 0))), false))
    else
     (impl_OrderOk k (1, (a2, (a3, v0)))).bind fun v4 =>
     if v4 = true then
      (impl_MenuNew k ()).bind fun v5 =>
      some (v5, ((1, (a2, (a3, v0))), true))
     else
      (impl_MenuNew k ()).bind fun v6 =>
      some (v6, ((0, (0, (0, 0))), false))
noncomputable def g_impl_Menu__enter : (Int × Bool × Int × Int × ByteArray) → Option ((Int × Bool × Int × Int × ByteArray) × (Int × Int × Int × Int) × Bool) := impl_Menu__enter_ (fun _ => g_impl_MenuNew) (fun _ => g_impl_OrderOk) (fun _ => g_impl_typed) 0
theorem e_impl_Menu__enter : ∀ x b, g_impl_Menu__enter x = some b → ∃ k, impl_Menu__enter_ (fun _ => g_impl_MenuNew) (fun _ => g_impl_OrderOk) (fun _ => g_impl_typed) k x = some b := fun x b h => ⟨0, h⟩
/- impl_Menu__top -/
def con_impl_Menu__top (f : Nat → (Int × Bool × Int × Int × ByteArray) × Int → Option ((Int × Bool × Int × Int × ByteArray) × (Int × Int × Int × Int) × Bool)) : Con := ⟨[.agg [.int .i64, .bool, .int .i64, .int .i64, .str], .c (.int .i64)], 3, [.v true [.int .i64, .bool, .int .i64, .int .i64, .str], .v true [.int .i64, .int .i64, .int .i64, .int .i64], .v false [.bool]], f⟩
def impl_Menu__top_ (k : Nat) : (Int × Bool × Int × Int × ByteArray) × Int → Option ((Int × Bool × Int × Int × ByteArray) × (Int × Int × Int × Int) × Bool)
  | ((a0, a1, a2, a3, a4), a5) =>
  if a5 = 98 then
   some ((2, (false, (0, (0, (⟨#[]⟩ : ByteArray))))), ((0, (0, (0, 0))), false))
  else
   if a5 = 111 then
    some ((4, (true, (0, (0, (⟨#[]⟩ : ByteArray))))), ((0, (0, (0, 0))), false))
   else
    if a5 = 112 then
     some ((a0, (a1, (a2, (a3, a4)))), ((3, (0, (0, 0))), true))
    else
     if a5 = 103 then
      some ((a0, (a1, (a2, (a3, a4)))), ((4, (0, (0, 0))), true))
     else
      if a5 = 115 then
       some ((a0, (a1, (a2, (a3, a4)))), ((5, (0, (0, 0))), true))
      else
       if a5 = 120 then
        some ((a0, (a1, (a2, (a3, a4)))), ((6, (0, (0, 0))), true))
       else
        some ((a0, (a1, (a2, (a3, a4)))), ((0, (0, (0, 0))), false))
noncomputable def g_impl_Menu__top : (Int × Bool × Int × Int × ByteArray) × Int → Option ((Int × Bool × Int × Int × ByteArray) × (Int × Int × Int × Int) × Bool) := impl_Menu__top_  0
theorem e_impl_Menu__top : ∀ x b, g_impl_Menu__top x = some b → ∃ k, impl_Menu__top_  k x = some b := fun x b h => ⟨0, h⟩
/- impl_Press -/
def con_impl_Press (f : Nat → (Int × Bool × Int × Int × ByteArray) × Int → Option ((Int × Bool × Int × Int × ByteArray) × (Int × Int × Int × Int) × Bool)) : Con := ⟨[.agg [.int .i64, .bool, .int .i64, .int .i64, .str], .c (.int .i64)], 3, [.v true [.int .i64, .bool, .int .i64, .int .i64, .str], .v true [.int .i64, .int .i64, .int .i64, .int .i64], .v false [.bool]], f⟩
def impl_Press_ (impl_MenuNew : Nat → Unit → Option ((Int × Bool × Int × Int × ByteArray))) (impl_MenuOk : Nat → (Int × Bool × Int × Int × ByteArray) → Option (Bool)) (impl_Menu__enter : Nat → (Int × Bool × Int × Int × ByteArray) → Option ((Int × Bool × Int × Int × ByteArray) × (Int × Int × Int × Int) × Bool)) (impl_Menu__top : Nat → (Int × Bool × Int × Int × ByteArray) × Int → Option ((Int × Bool × Int × Int × ByteArray) × (Int × Int × Int × Int) × Bool)) (impl_within : Nat → Int × Int × Int → Option (Bool)) (k : Nat) : (Int × Bool × Int × Int × ByteArray) × Int → Option ((Int × Bool × Int × Int × ByteArray) × (Int × Int × Int × Int) × Bool)
  | ((a0, a1, a2, a3, a4), a5) =>
  (impl_MenuOk k (a0, (a1, (a2, (a3, a4))))).bind fun v0 =>
  if v0 = true then
   if a0 = 1 then
    (impl_Menu__top k ((a0, (a1, (a2, (a3, a4)))), a5)).bind fun v1 =>
    some v1
   else
    if a5 = 10 then
     (impl_Menu__enter k (a0, (a1, (a2, (a3, a4))))).bind fun v2 =>
     some v2
    else
     if a5 = 99 then
      (impl_MenuNew k ()).bind fun v3 =>
      some (v3, ((0, (0, (0, 0))), false))
     else
      (impl_within k (a5, (48, 57))).bind fun v4 =>
      if v4 = true then
       if ((ByteArray.size a4 : Nat) : Int) < 4 then
        if ((ByteArray.size a4 + ByteArray.size (bstr [(wr .u8 a5)]) : Nat) : Int) ≤ 9223372036854775807 then some ((a0, (a1, (a2, (a3, (a4 ++ (bstr [(wr .u8 a5)])))))), ((0, (0, (0, 0))), false)) else none
       else
        some ((a0, (a1, (a2, (a3, a4)))), ((0, (0, (0, 0))), false))
      else
       some ((a0, (a1, (a2, (a3, a4)))), ((0, (0, (0, 0))), false))
  else
   some ((a0, (a1, (a2, (a3, a4)))), ((0, (0, (0, 0))), false))
noncomputable def g_impl_Press : (Int × Bool × Int × Int × ByteArray) × Int → Option ((Int × Bool × Int × Int × ByteArray) × (Int × Int × Int × Int) × Bool) := impl_Press_ (fun _ => g_impl_MenuNew) (fun _ => g_impl_MenuOk) (fun _ => g_impl_Menu__enter) (fun _ => g_impl_Menu__top) (fun _ => g_impl_within) 0
theorem e_impl_Press : ∀ x b, g_impl_Press x = some b → ∃ k, impl_Press_ (fun _ => g_impl_MenuNew) (fun _ => g_impl_MenuOk) (fun _ => g_impl_Menu__enter) (fun _ => g_impl_Menu__top) (fun _ => g_impl_within) k x = some b := fun x b h => ⟨0, h⟩
/- impl_PressAll -/
def con_impl_PressAll (f : Nat → (Int × Bool × Int × Int × ByteArray) × ByteArray → Option ((Int × Bool × Int × Int × ByteArray) × ((List (Int × (Int × (Int × Int))))))) : Con := ⟨[.agg [.int .i64, .bool, .int .i64, .int .i64, .str], .c (.str)], 2, [.v true [.int .i64, .bool, .int .i64, .int .i64, .str], .v false [.own (.pair (.int .i64) (.pair (.int .i64) (.pair (.int .i64) (.int .i64)))) 101]], f⟩
def impl_PressAll_L3 (impl_Press : Nat → (Int × Bool × Int × Int × ByteArray) × Int → Option ((Int × Bool × Int × Int × ByteArray) × (Int × Int × Int × Int) × Bool)) : Nat → ByteArray × Int × Int × Int × Bool × Int × Int × ByteArray × Int × Bool × Int × Int × ByteArray × (List (Int × (Int × (Int × Int)))) × Unit → Option ((Int × Bool × Int × Int × ByteArray) × ((List (Int × (Int × (Int × Int))))))
  | 0, _ => none
  | k + 1, (b0, b1, b2, b3, b4, b5, b6, b7, b8, b9, b10, b11, b12, b13, ()) =>
    if b2 < b1 then
     if 0 ≤ b2 then
      if b2 < ((ByteArray.size b0 : Nat) : Int) then (impl_Press k ((b3, (b4, (b5, (b6, b7)))), (wrap64 (byt b0 b2)))).bind fun v0 =>
       if v0.2.2 = true then
        if (((List.length b13 + List.length [v0.2.1] : Nat) : Int) * ((32 : Nat) : Int)) ≤ 140737488355328 then impl_PressAll_L3 impl_Press k (b0, b1, (wrap64 (b2 + 1)), v0.1.1, v0.1.2.1, v0.1.2.2.1, v0.1.2.2.2.1, v0.1.2.2.2.2, b8, b9, b10, b11, b12, (b13 ++ [v0.2.1]), ()) else none
       else
        impl_PressAll_L3 impl_Press k (b0, b1, (wrap64 (b2 + 1)), v0.1.1, v0.1.2.1, v0.1.2.2.1, v0.1.2.2.2.1, v0.1.2.2.2.2, b8, b9, b10, b11, b12, b13, ()) else none
     else
      none
    else
     some ((b3, (b4, (b5, (b6, b7)))), b13)
def impl_PressAll_ (impl_Press : Nat → (Int × Bool × Int × Int × ByteArray) × Int → Option ((Int × Bool × Int × Int × ByteArray) × (Int × Int × Int × Int) × Bool)) (k : Nat) : (Int × Bool × Int × Int × ByteArray) × ByteArray → Option ((Int × Bool × Int × Int × ByteArray) × ((List (Int × (Int × (Int × Int))))))
  | ((a0, a1, a2, a3, a4), a5) =>
  impl_PressAll_L3 impl_Press k (a5, ((ByteArray.size a5 : Nat) : Int), 0, a0, a1, a2, a3, a4, 0, false, 0, 0, (⟨#[]⟩ : ByteArray), ([] : List (Int × (Int × (Int × Int)))), ())
noncomputable def g_impl_PressAll : (Int × Bool × Int × Int × ByteArray) × ByteArray → Option ((Int × Bool × Int × Int × ByteArray) × ((List (Int × (Int × (Int × Int)))))) := evG (impl_PressAll_ (fun _ => g_impl_Press))
theorem e_impl_PressAll : ∀ x b, g_impl_PressAll x = some b → ∃ k, impl_PressAll_ (fun _ => g_impl_Press) k x = some b := evG_e _
/- impl_ordersOf -/
def con_impl_ordersOf (f : Nat → (Int × Bool × Int × Int × ByteArray) × (Int × ByteArray × ByteArray) → Option ((Int × Bool × Int × Int × ByteArray) × ((List (Int × (Int × (Int × Int))))))) : Con := ⟨[.agg [.int .i64, .bool, .int .i64, .int .i64, .str], .agg [.int .i64, .str, .str]], 2, [.v true [.int .i64, .bool, .int .i64, .int .i64, .str], .v false [.own (.pair (.int .i64) (.pair (.int .i64) (.pair (.int .i64) (.int .i64)))) 101]], f⟩
def impl_ordersOf_ (impl_PressAll : Nat → (Int × Bool × Int × Int × ByteArray) × ByteArray → Option ((Int × Bool × Int × Int × ByteArray) × ((List (Int × (Int × (Int × Int))))))) (impl_ReadOrder : Nat → ByteArray → Option ((Int × Int × Int × Int) × Bool)) (k : Nat) : (Int × Bool × Int × Int × ByteArray) × (Int × ByteArray × ByteArray) → Option ((Int × Bool × Int × Int × ByteArray) × ((List (Int × (Int × (Int × Int))))))
  | ((a0, a1, a2, a3, a4), (a5, a6, a7)) =>
  (impl_PressAll k ((a0, (a1, (a2, (a3, a4)))), a6)).bind fun v0 =>
  (impl_ReadOrder k a7).bind fun v1 =>
  if v1.2 = true then
   if (((List.length v0.2 + List.length [v1.1] : Nat) : Int) * ((32 : Nat) : Int)) ≤ 140737488355328 then some (v0.1, (v0.2 ++ [v1.1])) else none
  else
   some v0
noncomputable def g_impl_ordersOf : (Int × Bool × Int × Int × ByteArray) × (Int × ByteArray × ByteArray) → Option ((Int × Bool × Int × Int × ByteArray) × ((List (Int × (Int × (Int × Int)))))) := impl_ordersOf_ (fun _ => g_impl_PressAll) (fun _ => g_impl_ReadOrder) 0
theorem e_impl_ordersOf : ∀ x b, g_impl_ordersOf x = some b → ∃ k, impl_ordersOf_ (fun _ => g_impl_PressAll) (fun _ => g_impl_ReadOrder) k x = some b := fun x b h => ⟨0, h⟩
/- impl_InOk -/
def con_impl_InOk (f : Nat → (Int × ByteArray × ByteArray) → Option (Bool)) : Con := ⟨[.agg [.int .i64, .str, .str]], 1, [.v false [.bool]], f⟩
def impl_InOk_ (impl_SenseOk : Nat → Int → Option (Bool)) (k : Nat) : (Int × ByteArray × ByteArray) → Option (Bool)
  | (a0, a1, a2) =>
  (impl_SenseOk k a0).bind fun v0 =>
  if v0 = true then
   if ((ByteArray.size a1 : Nat) : Int) ≤ 20 then
    some (decide (((ByteArray.size a2 : Nat) : Int) ≤ 40))
   else
    some false
  else
   some false
noncomputable def g_impl_InOk : (Int × ByteArray × ByteArray) → Option (Bool) := impl_InOk_ (fun _ => g_impl_SenseOk) 0
theorem e_impl_InOk : ∀ x b, g_impl_InOk x = some b → ∃ k, impl_InOk_ (fun _ => g_impl_SenseOk) k x = some b := fun x b h => ⟨0, h⟩
/- impl_copyDevice -/
def con_impl_copyDevice (f : Nat → (Int × Int × Int × Int × Int × Int × Int × Int × List Int × Int × Int × Bool × Int × Int × ByteArray × (List (Int × (Int × Int))) × Int) → Option ((Int × Int × Int × Int × Int × Int × Int × Int × List Int × Int × Int × Bool × Int × Int × ByteArray × (List (Int × (Int × Int))) × Int))) : Con := ⟨[.agg [.int .i64, .int .i64, .int .i64, .int .i64, .int .i64, .int .i64, .int .i64, .int .i64, .sl (.int .i64), .int .i64, .int .i64, .bool, .int .i64, .int .i64, .str, .sl (.pair (.int .i64) (.pair (.int .i64) (.int .i64))), .int .i64]], 1, [.v true [.int .i64, .int .i64, .int .i64, .int .i64, .int .i64, .int .i64, .int .i64, .int .i64, .own (.int .i64) 3, .int .i64, .int .i64, .bool, .int .i64, .int .i64, .str, .own (.pair (.int .i64) (.pair (.int .i64) (.int .i64))) 54, .int .i64]], f⟩
def impl_copyDevice_ (impl_copyGuard : Nat → (List Int × Int) → Option ((List Int × Int))) (k : Nat) : (Int × Int × Int × Int × Int × Int × Int × Int × List Int × Int × Int × Bool × Int × Int × ByteArray × (List (Int × (Int × Int))) × Int) → Option ((Int × Int × Int × Int × Int × Int × Int × Int × List Int × Int × Int × Bool × Int × Int × ByteArray × (List (Int × (Int × Int))) × Int))
  | (a0, a1, a2, a3, a4, a5, a6, a7, a8, a9, a10, a11, a12, a13, a14, a15, a16) =>
  (impl_copyGuard k (a8, a9)).bind fun v0 =>
  if (((List.length ([] : List (Int × (Int × Int))) + List.length a15 : Nat) : Int) * ((24 : Nat) : Int)) ≤ 140737488355328 then some (a0, (a1, (a2, (a3, (a4, (a5, (a6, (a7, (v0.1, (v0.2, (a10, (a11, (a12, (a13, (a14, ((([] : List (Int × (Int × Int))) ++ a15), a16)))))))))))))))) else none
noncomputable def g_impl_copyDevice : (Int × Int × Int × Int × Int × Int × Int × Int × List Int × Int × Int × Bool × Int × Int × ByteArray × (List (Int × (Int × Int))) × Int) → Option ((Int × Int × Int × Int × Int × Int × Int × Int × List Int × Int × Int × Bool × Int × Int × ByteArray × (List (Int × (Int × Int))) × Int)) := impl_copyDevice_ (fun _ => g_impl_copyGuard) 0
theorem e_impl_copyDevice : ∀ x b, g_impl_copyDevice x = some b → ∃ k, impl_copyDevice_ (fun _ => g_impl_copyGuard) k x = some b := fun x b h => ⟨0, h⟩
/- impl_TickDevice -/
def con_impl_TickDevice (f : Nat → (Int × Int × Int × Int × Int × Int × Int × Int × List Int × Int × Int × Bool × Int × Int × ByteArray × (List (Int × (Int × Int))) × Int) × (Int × ByteArray × ByteArray) → Option ((Int × Int × Int × Int × Int × Int × Int × Int × List Int × Int × Int × Bool × Int × Int × ByteArray × (List (Int × (Int × Int))) × Int))) : Con := ⟨[.agg [.int .i64, .int .i64, .int .i64, .int .i64, .int .i64, .int .i64, .int .i64, .int .i64, .sl (.int .i64), .int .i64, .int .i64, .bool, .int .i64, .int .i64, .str, .sl (.pair (.int .i64) (.pair (.int .i64) (.int .i64))), .int .i64], .agg [.int .i64, .str, .str]], 1, [.v true [.int .i64, .int .i64, .int .i64, .int .i64, .int .i64, .int .i64, .int .i64, .int .i64, .own (.int .i64) 3, .int .i64, .int .i64, .bool, .int .i64, .int .i64, .str, .own (.pair (.int .i64) (.pair (.int .i64) (.int .i64))) 54, .int .i64]], f⟩
def impl_TickDevice_L7 (impl_Allow : Nat → (List Int × Int) × Int → Option (Int)) (impl_DeviceOk : Nat → (Int × Int × Int × Int × Int × Int × Int × Int × List Int × Int × Int × Bool × Int × Int × ByteArray × (List (Int × (Int × Int))) × Int) → Option (Bool)) (impl_Device__order : Nat → (Int × Int × Int × Int × Int × Int × Int × Int × List Int × Int × Int × Bool × Int × Int × ByteArray × (List (Int × (Int × Int))) × Int) × (Int × Int × Int × Int) → Option (Bool × (Int × Int × Int × Int × Int × Int × Int × Int × Unit × Int × Int × Bool × Int × Int × ByteArray × Unit × Int))) (impl_Feel : Nat → (List Int × Int) × Int × Bool → Option ((List Int × Int))) (impl_Give : Nat → (Int × Int × Int × Int × Int × Int × Int × Int) × Int → Option ((Int × Int × Int × Int × Int × Int × Int × Int))) (impl_InOk : Nat → (Int × ByteArray × ByteArray) → Option (Bool)) (impl_Pass : Nat → (List Int × Int) × Int → Option ((List Int × Int))) (impl_ReadOrder : Nat → ByteArray → Option ((Int × Int × Int × Int) × Bool)) (impl_Wants : Nat → (Int × Int × Int × Int × Int × Int × Int × Int) → Option (Int)) (impl_copyDevice : Nat → (Int × Int × Int × Int × Int × Int × Int × Int × List Int × Int × Int × Bool × Int × Int × ByteArray × (List (Int × (Int × Int))) × Int) → Option ((Int × Int × Int × Int × Int × Int × Int × Int × List Int × Int × Int × Bool × Int × Int × ByteArray × (List (Int × (Int × Int))) × Int))) (impl_isSeen : Nat → ((List (Int × (Int × (Int × Int))))) → Option (Bool)) (impl_ordersOf : Nat → (Int × Bool × Int × Int × ByteArray) × (Int × ByteArray × ByteArray) → Option ((Int × Bool × Int × Int × ByteArray) × ((List (Int × (Int × (Int × Int))))))) : Nat → Int × Int × Int × ByteArray × ByteArray × Int × Int × Int × Int × Int × Int × Int × Int × Int × Int × Bool × Int × Int × ByteArray × Int × Int × Int × Int × Int × Int × Int × Int × Int × Int × Int × Bool × Int × Int × ByteArray × Int × (List (Int × (Int × (Int × Int)))) × List Int × List Int × List Int × (List (Int × (Int × Int))) × Unit → Option ((Int × Int × Int × Int × Int × Int × Int × Int × List Int × Int × Int × Bool × Int × Int × ByteArray × (List (Int × (Int × Int))) × Int))
  | 0, _ => none
  | k + 1, (b0, b1, b2, b3, b4, b5, b6, b7, b8, b9, b10, b11, b12, b13, b14, b15, b16, b17, b18, b19, b20, b21, b22, b23, b24, b25, b26, b27, b28, b29, b30, b31, b32, b33, b34, b35, b36, b37, b38, b39, ()) =>
    if b1 < b0 then
     if 0 ≤ b1 then
      if b1 < ((List.length b35 : Nat) : Int) then (impl_Device__order k ((b20, (b21, (b22, (b23, (b24, (b25, (b26, (b27, (b38, (b28, (b29, (b30, (b31, (b32, (b33, (b39, b34)))))))))))))))), (List.getD b35 (Int.toNat b1) (0, (0, (0, 0)))))).bind fun v0 =>
       if v0.1 = true then
        impl_TickDevice_L7 impl_Allow impl_DeviceOk impl_Device__order impl_Feel impl_Give impl_InOk impl_Pass impl_ReadOrder impl_Wants impl_copyDevice impl_isSeen impl_ordersOf k (b0, (wrap64 (b1 + 1)), b2, b3, b4, b5, b6, b7, b8, b9, b10, b11, b12, b13, b14, b15, b16, b17, b18, b19, v0.2.1, v0.2.2.1, v0.2.2.2.1, v0.2.2.2.2.1, v0.2.2.2.2.2.1, v0.2.2.2.2.2.2.1, v0.2.2.2.2.2.2.2.1, v0.2.2.2.2.2.2.2.2.1, v0.2.2.2.2.2.2.2.2.2.2.1, v0.2.2.2.2.2.2.2.2.2.2.2.1, v0.2.2.2.2.2.2.2.2.2.2.2.2.1, v0.2.2.2.2.2.2.2.2.2.2.2.2.2.1, v0.2.2.2.2.2.2.2.2.2.2.2.2.2.2.1, v0.2.2.2.2.2.2.2.2.2.2.2.2.2.2.2.1, v0.2.2.2.2.2.2.2.2.2.2.2.2.2.2.2.2.2, b35, b36, b37, b38, b39, ())
       else
        impl_TickDevice_L7 impl_Allow impl_DeviceOk impl_Device__order impl_Feel impl_Give impl_InOk impl_Pass impl_ReadOrder impl_Wants impl_copyDevice impl_isSeen impl_ordersOf k (b0, (wrap64 (b1 + 1)), b2, b3, b4, b5, b6, b7, b8, b9, b10, b11, b12, b13, b14, b15, b16, b17, b18, b19, v0.2.1, v0.2.2.1, v0.2.2.2.1, v0.2.2.2.2.1, v0.2.2.2.2.2.1, v0.2.2.2.2.2.2.1, v0.2.2.2.2.2.2.2.1, v0.2.2.2.2.2.2.2.2.1, v0.2.2.2.2.2.2.2.2.2.2.1, v0.2.2.2.2.2.2.2.2.2.2.2.1, v0.2.2.2.2.2.2.2.2.2.2.2.2.1, v0.2.2.2.2.2.2.2.2.2.2.2.2.2.1, v0.2.2.2.2.2.2.2.2.2.2.2.2.2.2.1, v0.2.2.2.2.2.2.2.2.2.2.2.2.2.2.2.1, (wrap64 (v0.2.2.2.2.2.2.2.2.2.2.2.2.2.2.2.2.2 + 1)), b35, b36, b37, b38, b39, ()) else none
     else
      none
    else
     (impl_ReadOrder k b4).bind fun v1 =>
     if b4 = (⟨#[]⟩ : ByteArray) then
      (impl_isSeen k b35).bind fun v2 =>
      (impl_Feel k ((b38, b28), (b2, v2))).bind fun v3 =>
      (impl_Wants k (b20, (b21, (b22, (b23, (b24, (b25, (b26, b27)))))))).bind fun v4 =>
      (impl_Allow k (v3, v4)).bind fun v5 =>
      if v3.2 = 0 then
       (impl_Give k ((b20, (b21, (b22, (b23, (b24, (b25, (b26, b27))))))), v5)).bind fun v6 =>
       (impl_Pass k (v3, v5)).bind fun v7 =>
       if (((List.length b39 + List.length [(v5, (v7.2, v6.1))] : Nat) : Int) * ((24 : Nat) : Int)) ≤ 140737488355328 then some (v6.1, (v6.2.1, (v6.2.2.1, (v6.2.2.2.1, (v6.2.2.2.2.1, (v6.2.2.2.2.2.1, (v6.2.2.2.2.2.2.1, (v6.2.2.2.2.2.2.2, (v7.1, (v7.2, (b29, (b30, (b31, (b32, (b33, ((b39 ++ [(v5, (v7.2, v6.1))]), b34)))))))))))))))) else none
      else
       (impl_Pass k (v3, v5)).bind fun v8 =>
       if (((List.length b39 + List.length [(v5, (v8.2, b20))] : Nat) : Int) * ((24 : Nat) : Int)) ≤ 140737488355328 then some (b20, (b21, (b22, (b23, (b24, (b25, (b26, (b27, (v8.1, (v8.2, (b29, (b30, (b31, (b32, (b33, ((b39 ++ [(v5, (v8.2, b20))]), b34)))))))))))))))) else none
     else
      if v1.2 = true then
       (impl_isSeen k b35).bind fun v9 =>
       (impl_Feel k ((b38, b28), (b2, v9))).bind fun v10 =>
       (impl_Wants k (b20, (b21, (b22, (b23, (b24, (b25, (b26, b27)))))))).bind fun v11 =>
       (impl_Allow k (v10, v11)).bind fun v12 =>
       if v10.2 = 0 then
        (impl_Give k ((b20, (b21, (b22, (b23, (b24, (b25, (b26, b27))))))), v12)).bind fun v13 =>
        (impl_Pass k (v10, v12)).bind fun v14 =>
        if (((List.length b39 + List.length [(v12, (v14.2, v13.1))] : Nat) : Int) * ((24 : Nat) : Int)) ≤ 140737488355328 then some (v13.1, (v13.2.1, (v13.2.2.1, (v13.2.2.2.1, (v13.2.2.2.2.1, (v13.2.2.2.2.2.1, (v13.2.2.2.2.2.2.1, (v13.2.2.2.2.2.2.2, (v14.1, (v14.2, (b29, (b30, (b31, (b32, (b33, ((b39 ++ [(v12, (v14.2, v13.1))]), b34)))))))))))))))) else none
       else
        (impl_Pass k (v10, v12)).bind fun v15 =>
        if (((List.length b39 + List.length [(v12, (v15.2, b20))] : Nat) : Int) * ((24 : Nat) : Int)) ≤ 140737488355328 then some (b20, (b21, (b22, (b23, (b24, (b25, (b26, (b27, (v15.1, (v15.2, (b29, (b30, (b31, (b32, (b33, ((b39 ++ [(v12, (v15.2, b20))]), b34)))))))))))))))) else none
      else
       (impl_isSeen k b35).bind fun v16 =>
       (impl_Feel k ((b38, b28), (b2, v16))).bind fun v17 =>
       (impl_Wants k (b20, (b21, (b22, (b23, (b24, (b25, (b26, b27)))))))).bind fun v18 =>
       (impl_Allow k (v17, v18)).bind fun v19 =>
       if v17.2 = 0 then
        (impl_Give k ((b20, (b21, (b22, (b23, (b24, (b25, (b26, b27))))))), v19)).bind fun v20 =>
        (impl_Pass k (v17, v19)).bind fun v21 =>
        if (((List.length b39 + List.length [(v19, (v21.2, v20.1))] : Nat) : Int) * ((24 : Nat) : Int)) ≤ 140737488355328 then some (v20.1, (v20.2.1, (v20.2.2.1, (v20.2.2.2.1, (v20.2.2.2.2.1, (v20.2.2.2.2.2.1, (v20.2.2.2.2.2.2.1, (v20.2.2.2.2.2.2.2, (v21.1, (v21.2, (b29, (b30, (b31, (b32, (b33, ((b39 ++ [(v19, (v21.2, v20.1))]), (wrap64 (b34 + 1)))))))))))))))))) else none
       else
        (impl_Pass k (v17, v19)).bind fun v22 =>
        if (((List.length b39 + List.length [(v19, (v22.2, b20))] : Nat) : Int) * ((24 : Nat) : Int)) ≤ 140737488355328 then some (b20, (b21, (b22, (b23, (b24, (b25, (b26, (b27, (v22.1, (v22.2, (b29, (b30, (b31, (b32, (b33, ((b39 ++ [(v19, (v22.2, b20))]), (wrap64 (b34 + 1)))))))))))))))))) else none
def impl_TickDevice_ (impl_Allow : Nat → (List Int × Int) × Int → Option (Int)) (impl_DeviceOk : Nat → (Int × Int × Int × Int × Int × Int × Int × Int × List Int × Int × Int × Bool × Int × Int × ByteArray × (List (Int × (Int × Int))) × Int) → Option (Bool)) (impl_Device__order : Nat → (Int × Int × Int × Int × Int × Int × Int × Int × List Int × Int × Int × Bool × Int × Int × ByteArray × (List (Int × (Int × Int))) × Int) × (Int × Int × Int × Int) → Option (Bool × (Int × Int × Int × Int × Int × Int × Int × Int × Unit × Int × Int × Bool × Int × Int × ByteArray × Unit × Int))) (impl_Feel : Nat → (List Int × Int) × Int × Bool → Option ((List Int × Int))) (impl_Give : Nat → (Int × Int × Int × Int × Int × Int × Int × Int) × Int → Option ((Int × Int × Int × Int × Int × Int × Int × Int))) (impl_InOk : Nat → (Int × ByteArray × ByteArray) → Option (Bool)) (impl_Pass : Nat → (List Int × Int) × Int → Option ((List Int × Int))) (impl_ReadOrder : Nat → ByteArray → Option ((Int × Int × Int × Int) × Bool)) (impl_Wants : Nat → (Int × Int × Int × Int × Int × Int × Int × Int) → Option (Int)) (impl_copyDevice : Nat → (Int × Int × Int × Int × Int × Int × Int × Int × List Int × Int × Int × Bool × Int × Int × ByteArray × (List (Int × (Int × Int))) × Int) → Option ((Int × Int × Int × Int × Int × Int × Int × Int × List Int × Int × Int × Bool × Int × Int × ByteArray × (List (Int × (Int × Int))) × Int))) (impl_isSeen : Nat → ((List (Int × (Int × (Int × Int))))) → Option (Bool)) (impl_ordersOf : Nat → (Int × Bool × Int × Int × ByteArray) × (Int × ByteArray × ByteArray) → Option ((Int × Bool × Int × Int × ByteArray) × ((List (Int × (Int × (Int × Int))))))) (k : Nat) : (Int × Int × Int × Int × Int × Int × Int × Int × List Int × Int × Int × Bool × Int × Int × ByteArray × (List (Int × (Int × Int))) × Int) × (Int × ByteArray × ByteArray) → Option ((Int × Int × Int × Int × Int × Int × Int × Int × List Int × Int × Int × Bool × Int × Int × ByteArray × (List (Int × (Int × Int))) × Int))
  | ((a0, a1, a2, a3, a4, a5, a6, a7, a8, a9, a10, a11, a12, a13, a14, a15, a16), (a17, a18, a19)) =>
  (impl_copyDevice k (a0, (a1, (a2, (a3, (a4, (a5, (a6, (a7, (a8, (a9, (a10, (a11, (a12, (a13, (a14, (a15, a16))))))))))))))))).bind fun v0 =>
  (impl_DeviceOk k (a0, (a1, (a2, (a3, (a4, (a5, (a6, (a7, (a8, (a9, (a10, (a11, (a12, (a13, (a14, (a15, a16))))))))))))))))).bind fun v1 =>
  if v1 = true then
   (impl_InOk k (a17, (a18, a19))).bind fun v2 =>
   if v2 = true then
    if ((List.length a15 : Nat) : Int) = 200 then
     some v0
    else
     if 999999900 < a16 then
      some v0
     else
      (impl_ordersOf k ((a10, (a11, (a12, (a13, a14)))), (a17, (a18, a19)))).bind fun v3 =>
      impl_TickDevice_L7 impl_Allow impl_DeviceOk impl_Device__order impl_Feel impl_Give impl_InOk impl_Pass impl_ReadOrder impl_Wants impl_copyDevice impl_isSeen impl_ordersOf k (((List.length v3.2 : Nat) : Int), 0, a17, a18, a19, 0, 0, 0, 0, 0, 0, 0, 0, 0, 0, false, 0, 0, (⟨#[]⟩ : ByteArray), 0, v0.1, v0.2.1, v0.2.2.1, v0.2.2.2.1, v0.2.2.2.2.1, v0.2.2.2.2.2.1, v0.2.2.2.2.2.2.1, v0.2.2.2.2.2.2.2.1, v0.2.2.2.2.2.2.2.2.2.1, v3.1.1, v3.1.2.1, v3.1.2.2.1, v3.1.2.2.2.1, v3.1.2.2.2.2, v0.2.2.2.2.2.2.2.2.2.2.2.2.2.2.2.2, v3.2, [], [], v0.2.2.2.2.2.2.2.2.1, v0.2.2.2.2.2.2.2.2.2.2.2.2.2.2.2.1, ())
   else
    some v0
  else
   some v0
noncomputable def g_impl_TickDevice : (Int × Int × Int × Int × Int × Int × Int × Int × List Int × Int × Int × Bool × Int × Int × ByteArray × (List (Int × (Int × Int))) × Int) × (Int × ByteArray × ByteArray) → Option ((Int × Int × Int × Int × Int × Int × Int × Int × List Int × Int × Int × Bool × Int × Int × ByteArray × (List (Int × (Int × Int))) × Int)) := evG (impl_TickDevice_ (fun _ => g_impl_Allow) (fun _ => g_impl_DeviceOk) (fun _ => g_impl_Device__order) (fun _ => g_impl_Feel) (fun _ => g_impl_Give) (fun _ => g_impl_InOk) (fun _ => g_impl_Pass) (fun _ => g_impl_ReadOrder) (fun _ => g_impl_Wants) (fun _ => g_impl_copyDevice) (fun _ => g_impl_isSeen) (fun _ => g_impl_ordersOf))
theorem e_impl_TickDevice : ∀ x b, g_impl_TickDevice x = some b → ∃ k, impl_TickDevice_ (fun _ => g_impl_Allow) (fun _ => g_impl_DeviceOk) (fun _ => g_impl_Device__order) (fun _ => g_impl_Feel) (fun _ => g_impl_Give) (fun _ => g_impl_InOk) (fun _ => g_impl_Pass) (fun _ => g_impl_ReadOrder) (fun _ => g_impl_Wants) (fun _ => g_impl_copyDevice) (fun _ => g_impl_isSeen) (fun _ => g_impl_ordersOf) k x = some b := evG_e _
/- impl_PumpNew -/
def con_impl_PumpNew (f : Nat → Unit → Option ((Int × Int × Int × Int × Int × Int × Int × Int))) : Con := ⟨[], 1, [.v true [.int .i64, .int .i64, .int .i64, .int .i64, .int .i64, .int .i64, .int .i64, .int .i64]], f⟩
def impl_PumpNew_ (k : Nat) : Unit → Option ((Int × Int × Int × Int × Int × Int × Int × Int))
  | () =>
  some (0, (0, (1, (0, (0, (0, (0, 0)))))))
noncomputable def g_impl_PumpNew : Unit → Option ((Int × Int × Int × Int × Int × Int × Int × Int)) := impl_PumpNew_  0
theorem e_impl_PumpNew : ∀ x b, g_impl_PumpNew x = some b → ∃ k, impl_PumpNew_  k x = some b := fun x b h => ⟨0, h⟩
/- impl_DeviceNew -/
def con_impl_DeviceNew (f : Nat → Unit → Option ((Int × Int × Int × Int × Int × Int × Int × Int × List Int × Int × Int × Bool × Int × Int × ByteArray × (List (Int × (Int × Int))) × Int))) : Con := ⟨[], 1, [.v true [.int .i64, .int .i64, .int .i64, .int .i64, .int .i64, .int .i64, .int .i64, .int .i64, .own (.int .i64) 3, .int .i64, .int .i64, .bool, .int .i64, .int .i64, .str, .own (.pair (.int .i64) (.pair (.int .i64) (.int .i64))) 54, .int .i64]], f⟩
def impl_DeviceNew_ (impl_MenuNew : Nat → Unit → Option ((Int × Bool × Int × Int × ByteArray))) (impl_PumpNew : Nat → Unit → Option ((Int × Int × Int × Int × Int × Int × Int × Int))) (k : Nat) : Unit → Option ((Int × Int × Int × Int × Int × Int × Int × Int × List Int × Int × Int × Bool × Int × Int × ByteArray × (List (Int × (Int × Int))) × Int))
  | () =>
  (impl_PumpNew k ()).bind fun v0 =>
  (impl_MenuNew k ()).bind fun v1 =>
  some (v0.1, (v0.2.1, (v0.2.2.1, (v0.2.2.2.1, (v0.2.2.2.2.1, (v0.2.2.2.2.2.1, (v0.2.2.2.2.2.2.1, (v0.2.2.2.2.2.2.2, (([] : List Int), (0, (v1.1, (v1.2.1, (v1.2.2.1, (v1.2.2.2.1, (v1.2.2.2.2, (([] : List (Int × (Int × Int))), 0))))))))))))))))
noncomputable def g_impl_DeviceNew : Unit → Option ((Int × Int × Int × Int × Int × Int × Int × Int × List Int × Int × Int × Bool × Int × Int × ByteArray × (List (Int × (Int × Int))) × Int)) := impl_DeviceNew_ (fun _ => g_impl_MenuNew) (fun _ => g_impl_PumpNew) 0
theorem e_impl_DeviceNew : ∀ x b, g_impl_DeviceNew x = some b → ∃ k, impl_DeviceNew_ (fun _ => g_impl_MenuNew) (fun _ => g_impl_PumpNew) k x = some b := fun x b h => ⟨0, h⟩
/- impl_RunDevice -/
def con_impl_RunDevice (f : Nat → ((List (Int × (ByteArray × ByteArray)))) → Option ((Int × Int × Int × Int × Int × Int × Int × Int × List Int × Int × Int × Bool × Int × Int × ByteArray × (List (Int × (Int × Int))) × Int) × Bool)) : Con := ⟨[.c (.sl (.pair (.int .i64) (.pair .str .str)))], 2, [.v true [.int .i64, .int .i64, .int .i64, .int .i64, .int .i64, .int .i64, .int .i64, .int .i64, .own (.int .i64) 3, .int .i64, .int .i64, .bool, .int .i64, .int .i64, .str, .own (.pair (.int .i64) (.pair (.int .i64) (.int .i64))) 54, .int .i64], .v false [.bool]], f⟩
mutual
def impl_RunDevice_L4 (impl_DeviceNew : Nat → Unit → Option ((Int × Int × Int × Int × Int × Int × Int × Int × List Int × Int × Int × Bool × Int × Int × ByteArray × (List (Int × (Int × Int))) × Int))) (impl_InOk : Nat → (Int × ByteArray × ByteArray) → Option (Bool)) (impl_TickDevice : Nat → (Int × Int × Int × Int × Int × Int × Int × Int × List Int × Int × Int × Bool × Int × Int × ByteArray × (List (Int × (Int × Int))) × Int) × (Int × ByteArray × ByteArray) → Option ((Int × Int × Int × Int × Int × Int × Int × Int × List Int × Int × Int × Bool × Int × Int × ByteArray × (List (Int × (Int × Int))) × Int))) : Nat → Int × Int × (List (Int × (ByteArray × ByteArray))) × Int × Int × Int × Int × Int × Int × Int × Int × Int × Int × Bool × Int × Int × ByteArray × Int × List Int × List Int × Unit → Option ((Int × Int × Int × Int × Int × Int × Int × Int × List Int × Int × Int × Bool × Int × Int × ByteArray × (List (Int × (Int × Int))) × Int) × Bool)
  | 0, _ => none
  | k + 1, (b0, b1, b2, b3, b4, b5, b6, b7, b8, b9, b10, b11, b12, b13, b14, b15, b16, b17, b18, b19, ()) =>
    if b1 < b0 then
     if 0 ≤ b1 then
      if b1 < ((List.length b2 : Nat) : Int) then (impl_InOk k (List.getD b2 (Int.toNat b1) (0, ((⟨#[]⟩ : ByteArray), (⟨#[]⟩ : ByteArray))))).bind fun v0 =>
       if v0 = true then
        impl_RunDevice_L4 impl_DeviceNew impl_InOk impl_TickDevice k (b0, (wrap64 (b1 + 1)), b2, b3, b4, b5, b6, b7, b8, b9, b10, b11, b12, b13, b14, b15, b16, b17, b18, b19, ())
       else
        some ((0, (0, (0, (0, (0, (0, (0, (0, (([] : List Int), (0, (0, (false, (0, (0, ((⟨#[]⟩ : ByteArray), (([] : List (Int × (Int × Int))), 0)))))))))))))))), false) else none
     else
      none
    else
     (impl_DeviceNew k ()).bind fun v1 =>
     impl_RunDevice_L11 impl_DeviceNew impl_InOk impl_TickDevice k (((List.length b2 : Nat) : Int), 0, b2, b3, b4, b5, b6, b7, b8, b9, b10, b11, b12, b13, b14, b15, b16, b17, v1.1, v1.2.1, v1.2.2.1, v1.2.2.2.1, v1.2.2.2.2.1, v1.2.2.2.2.2.1, v1.2.2.2.2.2.2.1, v1.2.2.2.2.2.2.2.1, v1.2.2.2.2.2.2.2.2.2.1, v1.2.2.2.2.2.2.2.2.2.2.1, v1.2.2.2.2.2.2.2.2.2.2.2.1, v1.2.2.2.2.2.2.2.2.2.2.2.2.1, v1.2.2.2.2.2.2.2.2.2.2.2.2.2.1, v1.2.2.2.2.2.2.2.2.2.2.2.2.2.2.1, v1.2.2.2.2.2.2.2.2.2.2.2.2.2.2.2.2, b18, b19, v1.2.2.2.2.2.2.2.2.1, v1.2.2.2.2.2.2.2.2.2.2.2.2.2.2.2.1, ())
def impl_RunDevice_L11 (impl_DeviceNew : Nat → Unit → Option ((Int × Int × Int × Int × Int × Int × Int × Int × List Int × Int × Int × Bool × Int × Int × ByteArray × (List (Int × (Int × Int))) × Int))) (impl_InOk : Nat → (Int × ByteArray × ByteArray) → Option (Bool)) (impl_TickDevice : Nat → (Int × Int × Int × Int × Int × Int × Int × Int × List Int × Int × Int × Bool × Int × Int × ByteArray × (List (Int × (Int × Int))) × Int) × (Int × ByteArray × ByteArray) → Option ((Int × Int × Int × Int × Int × Int × Int × Int × List Int × Int × Int × Bool × Int × Int × ByteArray × (List (Int × (Int × Int))) × Int))) : Nat → Int × Int × (List (Int × (ByteArray × ByteArray))) × Int × Int × Int × Int × Int × Int × Int × Int × Int × Int × Bool × Int × Int × ByteArray × Int × Int × Int × Int × Int × Int × Int × Int × Int × Int × Int × Bool × Int × Int × ByteArray × Int × List Int × List Int × List Int × (List (Int × (Int × Int))) × Unit → Option ((Int × Int × Int × Int × Int × Int × Int × Int × List Int × Int × Int × Bool × Int × Int × ByteArray × (List (Int × (Int × Int))) × Int) × Bool)
  | 0, _ => none
  | k + 1, (b0, b1, b2, b3, b4, b5, b6, b7, b8, b9, b10, b11, b12, b13, b14, b15, b16, b17, b18, b19, b20, b21, b22, b23, b24, b25, b26, b27, b28, b29, b30, b31, b32, b33, b34, b35, b36, ()) =>
    if b1 < b0 then
     if 0 ≤ b1 then
      if b1 < ((List.length b2 : Nat) : Int) then (impl_TickDevice k ((b18, (b19, (b20, (b21, (b22, (b23, (b24, (b25, (b35, (b26, (b27, (b28, (b29, (b30, (b31, (b36, b32)))))))))))))))), (List.getD b2 (Int.toNat b1) (0, ((⟨#[]⟩ : ByteArray), (⟨#[]⟩ : ByteArray)))))).bind fun v0 =>
       impl_RunDevice_L11 impl_DeviceNew impl_InOk impl_TickDevice k (b0, (wrap64 (b1 + 1)), b2, b3, b4, b5, b6, b7, b8, b9, b10, b11, b12, b13, b14, b15, b16, b17, v0.1, v0.2.1, v0.2.2.1, v0.2.2.2.1, v0.2.2.2.2.1, v0.2.2.2.2.2.1, v0.2.2.2.2.2.2.1, v0.2.2.2.2.2.2.2.1, v0.2.2.2.2.2.2.2.2.2.1, v0.2.2.2.2.2.2.2.2.2.2.1, v0.2.2.2.2.2.2.2.2.2.2.2.1, v0.2.2.2.2.2.2.2.2.2.2.2.2.1, v0.2.2.2.2.2.2.2.2.2.2.2.2.2.1, v0.2.2.2.2.2.2.2.2.2.2.2.2.2.2.1, v0.2.2.2.2.2.2.2.2.2.2.2.2.2.2.2.2, b33, b34, v0.2.2.2.2.2.2.2.2.1, v0.2.2.2.2.2.2.2.2.2.2.2.2.2.2.2.1, ()) else none
     else
      none
    else
     some ((b18, (b19, (b20, (b21, (b22, (b23, (b24, (b25, (b35, (b26, (b27, (b28, (b29, (b30, (b31, (b36, b32)))))))))))))))), true)
end
def impl_RunDevice_ (impl_DeviceNew : Nat → Unit → Option ((Int × Int × Int × Int × Int × Int × Int × Int × List Int × Int × Int × Bool × Int × Int × ByteArray × (List (Int × (Int × Int))) × Int))) (impl_InOk : Nat → (Int × ByteArray × ByteArray) → Option (Bool)) (impl_TickDevice : Nat → (Int × Int × Int × Int × Int × Int × Int × Int × List Int × Int × Int × Bool × Int × Int × ByteArray × (List (Int × (Int × Int))) × Int) × (Int × ByteArray × ByteArray) → Option ((Int × Int × Int × Int × Int × Int × Int × Int × List Int × Int × Int × Bool × Int × Int × ByteArray × (List (Int × (Int × Int))) × Int))) (k : Nat) : ((List (Int × (ByteArray × ByteArray)))) → Option ((Int × Int × Int × Int × Int × Int × Int × Int × List Int × Int × Int × Bool × Int × Int × ByteArray × (List (Int × (Int × Int))) × Int) × Bool)
  | a0 =>
  if 150 < ((List.length a0 : Nat) : Int) then
   some ((0, (0, (0, (0, (0, (0, (0, (0, (([] : List Int), (0, (0, (false, (0, (0, ((⟨#[]⟩ : ByteArray), (([] : List (Int × (Int × Int))), 0)))))))))))))))), false)
  else
   impl_RunDevice_L4 impl_DeviceNew impl_InOk impl_TickDevice k (((List.length a0 : Nat) : Int), 0, a0, 0, 0, 0, 0, 0, 0, 0, 0, 0, 0, false, 0, 0, (⟨#[]⟩ : ByteArray), 0, [], [], ())
noncomputable def g_impl_RunDevice : ((List (Int × (ByteArray × ByteArray)))) → Option ((Int × Int × Int × Int × Int × Int × Int × Int × List Int × Int × Int × Bool × Int × Int × ByteArray × (List (Int × (Int × Int))) × Int) × Bool) := evG (impl_RunDevice_ (fun _ => g_impl_DeviceNew) (fun _ => g_impl_InOk) (fun _ => g_impl_TickDevice))
theorem e_impl_RunDevice : ∀ x b, g_impl_RunDevice x = some b → ∃ k, impl_RunDevice_ (fun _ => g_impl_DeviceNew) (fun _ => g_impl_InOk) (fun _ => g_impl_TickDevice) k x = some b := evG_e _
/- impl_Unhex -/
def con_impl_Unhex (f : Nat → ByteArray → Option (ByteArray × Bool)) : Con := ⟨[.c (.str)], 2, [.v false [.str], .v false [.bool]], f⟩
def impl_Unhex_L5 (strings_IndexByte : Nat → ByteArray × Int → Option (Int)) : Nat → ByteArray × Int × List Int × Unit → Option (ByteArray × Bool)
  | 0, _ => none
  | k + 1, (b0, b1, b2, ()) =>
    if b1 < ((ByteArray.size b0 : Nat) : Int) then
     if 0 ≤ b1 then
      if b1 < ((ByteArray.size b0 : Nat) : Int) then (strings_IndexByte k ((⟨#[48, 49, 50, 51, 52, 53, 54, 55, 56, 57, 97, 98, 99, 100, 101, 102]⟩ : ByteArray), (byt b0 b1))).bind fun v0 =>
       if 0 ≤ (wrap64 (b1 + 1)) then
        if (wrap64 (b1 + 1)) < ((ByteArray.size b0 : Nat) : Int) then (strings_IndexByte k ((⟨#[48, 49, 50, 51, 52, 53, 54, 55, 56, 57, 97, 98, 99, 100, 101, 102]⟩ : ByteArray), (byt b0 (wrap64 (b1 + 1))))).bind fun v1 =>
         if v0 < 0 then
          some ((⟨#[]⟩ : ByteArray), false)
         else
          if v1 < 0 then
           some ((⟨#[]⟩ : ByteArray), false)
          else
           if (((List.length b2 + List.length [(wr .u8 (wrap64 ((wrap64 (16 * v0)) + v1)))] : Nat) : Int) * ((1 : Nat) : Int)) ≤ 140737488355328 then impl_Unhex_L5 strings_IndexByte k (b0, (wrap64 (b1 + 2)), (b2 ++ [(wr .u8 (wrap64 ((wrap64 (16 * v0)) + v1)))]), ()) else none else none
       else
        none else none
     else
      none
    else
     some ((bstr b2), true)
def impl_Unhex_ (strings_IndexByte : Nat → ByteArray × Int → Option (Int)) (k : Nat) : ByteArray → Option (ByteArray × Bool)
  | a0 =>
  if 2 = 0 then
   none
  else
   if (Int.tmod ((ByteArray.size a0 : Nat) : Int) 2) = 0 then
    if 40000 < ((ByteArray.size a0 : Nat) : Int) then
     some ((⟨#[]⟩ : ByteArray), false)
    else
     impl_Unhex_L5 strings_IndexByte k (a0, 0, ([] : List Int), ())
   else
    some ((⟨#[]⟩ : ByteArray), false)
noncomputable def g_impl_Unhex : ByteArray → Option (ByteArray × Bool) := evG (impl_Unhex_ (fun _ => g_strings_IndexByte))
theorem e_impl_Unhex : ∀ x b, g_impl_Unhex x = some b → ∃ k, impl_Unhex_ (fun _ => g_strings_IndexByte) k x = some b := evG_e _
/- impl_ReadSense -/
def con_impl_ReadSense (f : Nat → ByteArray → Option (Int × Bool)) : Con := ⟨[.c (.str)], 2, [.v false [.int .i64], .v false [.bool]], f⟩
def impl_ReadSense_L2 (impl_SenseNames : Nat → Int → Option (ByteArray)) : Nat → ByteArray × Int × Unit → Option (Int × Bool)
  | 0, _ => none
  | k + 1, (b0, b1, ()) =>
    if b1 < 16 then
     (impl_SenseNames k b1).bind fun v0 =>
     if v0 = b0 then
      some (b1, true)
     else
      impl_ReadSense_L2 impl_SenseNames k (b0, (wrap64 (b1 + 1)), ())
    else
     some (0, false)
def impl_ReadSense_ (impl_SenseNames : Nat → Int → Option (ByteArray)) (k : Nat) : ByteArray → Option (Int × Bool)
  | a0 =>
  impl_ReadSense_L2 impl_SenseNames k (a0, 0, ())
noncomputable def g_impl_ReadSense : ByteArray → Option (Int × Bool) := evG (impl_ReadSense_ (fun _ => g_impl_SenseNames))
theorem e_impl_ReadSense : ∀ x b, g_impl_ReadSense x = some b → ∃ k, impl_ReadSense_ (fun _ => g_impl_SenseNames) k x = some b := evG_e _
/- impl_readIn -/
def con_impl_readIn (f : Nat → List ByteArray → Option ((Int × ByteArray × ByteArray) × Int × Bool)) : Con := ⟨[.c (.sl .str)], 3, [.v true [.int .i64, .str, .str], .v false [.int .i64], .v false [.bool]], f⟩
def impl_readIn_ (impl_InOk : Nat → (Int × ByteArray × ByteArray) → Option (Bool)) (impl_ReadDecimal : Nat → ByteArray → Option (Int × Bool)) (impl_ReadSense : Nat → ByteArray → Option (Int × Bool)) (impl_Unhex : Nat → ByteArray → Option (ByteArray × Bool)) (impl_within : Nat → Int × Int × Int → Option (Bool)) (strings_ReplaceAll : Nat → ByteArray × ByteArray × ByteArray → Option (ByteArray)) (k : Nat) : List ByteArray → Option ((Int × ByteArray × ByteArray) × Int × Bool)
  | a0 =>
  if ((List.length a0 : Nat) : Int) = 1 then
   if 0 ≤ 0 then
    if 0 < ((List.length a0 : Nat) : Int) then some ((0, ((⟨#[]⟩ : ByteArray), (⟨#[]⟩ : ByteArray))), (1, (decide ((List.getD a0 (Int.toNat 0) (⟨#[]⟩ : ByteArray)) = (⟨#[116, 105, 99, 107]⟩ : ByteArray))))) else none
   else
    none
  else
   if ((List.length a0 : Nat) : Int) = 2 then
    if 0 ≤ 0 then
     if 0 < ((List.length a0 : Nat) : Int) then
      if (List.getD a0 (Int.toNat 0) (⟨#[]⟩ : ByteArray)) = (⟨#[102, 101, 101, 108]⟩ : ByteArray) then
       if 0 ≤ 1 then
        if 1 < ((List.length a0 : Nat) : Int) then (impl_ReadSense k (List.getD a0 (Int.toNat 1) (⟨#[]⟩ : ByteArray))).bind fun v0 =>
         if v0.2 = true then
          (impl_InOk k (v0.1, ((⟨#[]⟩ : ByteArray), (⟨#[]⟩ : ByteArray)))).bind fun v1 =>
          some ((v0.1, ((⟨#[]⟩ : ByteArray), (⟨#[]⟩ : ByteArray))), (1, v1))
         else
          some ((v0.1, ((⟨#[]⟩ : ByteArray), (⟨#[]⟩ : ByteArray))), (1, false)) else none
       else
        none
      else
       if (List.getD a0 (Int.toNat 0) (⟨#[]⟩ : ByteArray)) = (⟨#[107, 101, 121, 115]⟩ : ByteArray) then
        if 0 ≤ 1 then
         if 1 < ((List.length a0 : Nat) : Int) then (strings_ReplaceAll k ((List.getD a0 (Int.toNat 1) (⟨#[]⟩ : ByteArray)), ((⟨#[46]⟩ : ByteArray), (⟨#[10]⟩ : ByteArray)))).bind fun v2 =>
          (impl_InOk k (0, (v2, (⟨#[]⟩ : ByteArray)))).bind fun v3 =>
          some ((0, (v2, (⟨#[]⟩ : ByteArray))), (1, v3)) else none
        else
         none
       else
        if (List.getD a0 (Int.toNat 0) (⟨#[]⟩ : ByteArray)) = (⟨#[108, 105, 110, 107]⟩ : ByteArray) then
         if 0 ≤ 1 then
          if 1 < ((List.length a0 : Nat) : Int) then (impl_Unhex k (List.getD a0 (Int.toNat 1) (⟨#[]⟩ : ByteArray))).bind fun v4 =>
           if v4.2 = true then
            (impl_InOk k (0, ((⟨#[]⟩ : ByteArray), v4.1))).bind fun v5 =>
            some ((0, ((⟨#[]⟩ : ByteArray), v4.1)), (1, v5))
           else
            some ((0, ((⟨#[]⟩ : ByteArray), v4.1)), (1, false)) else none
         else
          none
        else
         if (List.getD a0 (Int.toNat 0) (⟨#[]⟩ : ByteArray)) = (⟨#[109, 97, 110, 121]⟩ : ByteArray) then
          if 0 ≤ 1 then
           if 1 < ((List.length a0 : Nat) : Int) then (impl_ReadDecimal k (List.getD a0 (Int.toNat 1) (⟨#[]⟩ : ByteArray))).bind fun v6 =>
            if v6.2 = true then
             (impl_within k (v6.1, (1, 50))).bind fun v7 =>
             if v7 = true then
              (impl_InOk k (0, ((⟨#[]⟩ : ByteArray), (⟨#[]⟩ : ByteArray)))).bind fun v8 =>
              some ((0, ((⟨#[]⟩ : ByteArray), (⟨#[]⟩ : ByteArray))), (v6.1, v8))
             else
              some ((0, ((⟨#[]⟩ : ByteArray), (⟨#[]⟩ : ByteArray))), (v6.1, false))
            else
             some ((0, ((⟨#[]⟩ : ByteArray), (⟨#[]⟩ : ByteArray))), (v6.1, false)) else none
          else
           none
         else
          some ((0, ((⟨#[]⟩ : ByteArray), (⟨#[]⟩ : ByteArray))), (1, false))
     else
      none
    else
     none
   else
    some ((0, ((⟨#[]⟩ : ByteArray), (⟨#[]⟩ : ByteArray))), (0, false))
noncomputable def g_impl_readIn : List ByteArray → Option ((Int × ByteArray × ByteArray) × Int × Bool) := impl_readIn_ (fun _ => g_impl_InOk) (fun _ => g_impl_ReadDecimal) (fun _ => g_impl_ReadSense) (fun _ => g_impl_Unhex) (fun _ => g_impl_within) (fun _ => g_strings_ReplaceAll) 0
theorem e_impl_readIn : ∀ x b, g_impl_readIn x = some b → ∃ k, impl_readIn_ (fun _ => g_impl_InOk) (fun _ => g_impl_ReadDecimal) (fun _ => g_impl_ReadSense) (fun _ => g_impl_Unhex) (fun _ => g_impl_within) (fun _ => g_strings_ReplaceAll) k x = some b := fun x b h => ⟨0, h⟩
/- impl_PartsOf -/
def con_impl_PartsOf (f : Nat → ByteArray → Option (List ByteArray × Bool)) : Con := ⟨[.c (.str)], 2, [.v false [.own .str 9], .v false [.bool]], f⟩
mutual
def impl_PartsOf_L5 (impl_within : Nat → Int × Int × Int → Option (Bool)) (strings_Split : Nat → ByteArray × ByteArray → Option (List ByteArray)) : Nat → ByteArray × Int × List ByteArray × Unit → Option (List ByteArray × Bool)
  | 0, _ => none
  | k + 1, (b0, b1, b2, ()) =>
    if b1 < ((ByteArray.size b0 : Nat) : Int) then
     if 0 ≤ b1 then
      if b1 < ((ByteArray.size b0 : Nat) : Int) then (impl_within k ((wrap64 (byt b0 b1)), (32, 126))).bind fun v0 =>
       if v0 = true then
        impl_PartsOf_L5 impl_within strings_Split k (b0, (wrap64 (b1 + 1)), b2, ())
       else
        some (([] : List ByteArray), false) else none
     else
      none
    else
     (strings_Split k (b0, (⟨#[32]⟩ : ByteArray))).bind fun v1 =>
     impl_PartsOf_L10 impl_within strings_Split k (((List.length v1 : Nat) : Int), 0, b2, v1, ())
def impl_PartsOf_L10 (impl_within : Nat → Int × Int × Int → Option (Bool)) (strings_Split : Nat → ByteArray × ByteArray → Option (List ByteArray)) : Nat → Int × Int × List ByteArray × List ByteArray × Unit → Option (List ByteArray × Bool)
  | 0, _ => none
  | k + 1, (b0, b1, b2, b3, ()) =>
    if b1 < b0 then
     if 0 ≤ b1 then
      if b1 < ((List.length b3 : Nat) : Int) then
       if (List.getD b3 (Int.toNat b1) (⟨#[]⟩ : ByteArray)) = (⟨#[]⟩ : ByteArray) then
        impl_PartsOf_L10 impl_within strings_Split k (b0, (wrap64 (b1 + 1)), b2, b3, ())
       else
        if (((List.length b2 + List.length [(List.getD b3 (Int.toNat b1) (⟨#[]⟩ : ByteArray))] : Nat) : Int) * ((16 : Nat) : Int)) ≤ 140737488355328 then impl_PartsOf_L10 impl_within strings_Split k (b0, (wrap64 (b1 + 1)), (b2 ++ [(List.getD b3 (Int.toNat b1) (⟨#[]⟩ : ByteArray))]), b3, ()) else none
      else
       none
     else
      none
    else
     if 10 < ((List.length b2 : Nat) : Int) then
      some (([] : List ByteArray), false)
     else
      some (b2, true)
end
def impl_PartsOf_ (impl_within : Nat → Int × Int × Int → Option (Bool)) (strings_Split : Nat → ByteArray × ByteArray → Option (List ByteArray)) (k : Nat) : ByteArray → Option (List ByteArray × Bool)
  | a0 =>
  if 600 < ((ByteArray.size a0 : Nat) : Int) then
   some (([] : List ByteArray), false)
  else
   impl_PartsOf_L5 impl_within strings_Split k (a0, 0, ([] : List ByteArray), ())
noncomputable def g_impl_PartsOf : ByteArray → Option (List ByteArray × Bool) := evG (impl_PartsOf_ (fun _ => g_impl_within) (fun _ => g_strings_Split))
theorem e_impl_PartsOf : ∀ x b, g_impl_PartsOf x = some b → ∃ k, impl_PartsOf_ (fun _ => g_impl_within) (fun _ => g_strings_Split) k x = some b := evG_e _
/- impl_linesOf -/
def con_impl_linesOf (f : Nat → ByteArray → Option (List ByteArray)) : Con := ⟨[.c (.str)], 1, [.v false [.own .str 9]], f⟩
def impl_linesOf_ (strings_Split : Nat → ByteArray × ByteArray → Option (List ByteArray)) (k : Nat) : ByteArray → Option (List ByteArray)
  | a0 =>
  (strings_Split k (a0, (⟨#[10]⟩ : ByteArray))).bind fun v0 =>
  if 0 ≤ (wrap64 (((List.length v0 : Nat) : Int) - 1)) then
   if (wrap64 (((List.length v0 : Nat) : Int) - 1)) < ((List.length v0 : Nat) : Int) then
    if (List.getD v0 (Int.toNat (wrap64 (((List.length v0 : Nat) : Int) - 1))) (⟨#[]⟩ : ByteArray)) = (⟨#[]⟩ : ByteArray) then
     if 0 ≤ (wrap64 (((List.length v0 : Nat) : Int) - 1)) then
      if (wrap64 (((List.length v0 : Nat) : Int) - 1)) ≤ ((List.length v0 : Nat) : Int) then some (List.take (Int.toNat (wrap64 (((List.length v0 : Nat) : Int) - 1))) v0) else none
     else
      none
    else
     some v0
   else
    none
  else
   none
noncomputable def g_impl_linesOf : ByteArray → Option (List ByteArray) := impl_linesOf_ (fun _ => g_strings_Split) 0
theorem e_impl_linesOf : ∀ x b, g_impl_linesOf x = some b → ∃ k, impl_linesOf_ (fun _ => g_strings_Split) k x = some b := fun x b h => ⟨0, h⟩
/- impl_ReadScript -/
def con_impl_ReadScript (f : Nat → ByteArray → Option (((List (Int × (ByteArray × ByteArray)))) × Int)) : Con := ⟨[.c (.str)], 2, [.v false [.own (.pair (.int .i64) (.pair .str .str)) 61], .v false [.int .i64]], f⟩
mutual
def impl_ReadScript_L6 (impl_PartsOf : Nat → ByteArray → Option (List ByteArray × Bool)) (impl_linesOf : Nat → ByteArray → Option (List ByteArray)) (impl_readIn : Nat → List ByteArray → Option ((Int × ByteArray × ByteArray) × Int × Bool)) : Nat → Int × Int × (List (Int × (ByteArray × ByteArray))) × List ByteArray × Unit → Option (((List (Int × (ByteArray × ByteArray)))) × Int)
  | 0, _ => none
  | k + 1, (b0, b1, b2, b3, ()) =>
    if b1 < b0 then
     if 0 ≤ b1 then
      if b1 < ((List.length b3 : Nat) : Int) then (impl_PartsOf k (List.getD b3 (Int.toNat b1) (⟨#[]⟩ : ByteArray))).bind fun v0 =>
       if v0.2 = true then
        if ((List.length v0.1 : Nat) : Int) = 0 then
         impl_ReadScript_L6 impl_PartsOf impl_linesOf impl_readIn k (b0, (wrap64 (b1 + 1)), b2, b3, ())
        else
         if 0 ≤ 0 then
          if 0 < ((List.length v0.1 : Nat) : Int) then
           if 0 ≤ 0 then
            if 0 < ((ByteArray.size (List.getD v0.1 (Int.toNat 0) (⟨#[]⟩ : ByteArray)) : Nat) : Int) then
             if (byt (List.getD v0.1 (Int.toNat 0) (⟨#[]⟩ : ByteArray)) 0) = 35 then
              impl_ReadScript_L6 impl_PartsOf impl_linesOf impl_readIn k (b0, (wrap64 (b1 + 1)), b2, b3, ())
             else
              if v0.2 = true then
               (impl_readIn k v0.1).bind fun v1 =>
               if v1.2.2 = true then
                if 150 < (wrap64 (((List.length b2 : Nat) : Int) + v1.2.1)) then
                 some (([] : List (Int × (ByteArray × ByteArray))), (wrap64 (b1 + 1)))
                else
                 impl_ReadScript_L16 impl_PartsOf impl_linesOf impl_readIn k (b0, b1, v1.2.1, 0, b2, v1.1.1, v1.1.2.1, v1.1.2.2, b3, ())
               else
                some (([] : List (Int × (ByteArray × ByteArray))), (wrap64 (b1 + 1)))
              else
               some (([] : List (Int × (ByteArray × ByteArray))), (wrap64 (b1 + 1)))
            else
             none
           else
            none
          else
           none
         else
          none
       else
        if v0.2 = true then
         (impl_readIn k v0.1).bind fun v2 =>
         if v2.2.2 = true then
          if 150 < (wrap64 (((List.length b2 : Nat) : Int) + v2.2.1)) then
           some (([] : List (Int × (ByteArray × ByteArray))), (wrap64 (b1 + 1)))
          else
           impl_ReadScript_L16 impl_PartsOf impl_linesOf impl_readIn k (b0, b1, v2.2.1, 0, b2, v2.1.1, v2.1.2.1, v2.1.2.2, b3, ())
         else
          some (([] : List (Int × (ByteArray × ByteArray))), (wrap64 (b1 + 1)))
        else
         some (([] : List (Int × (ByteArray × ByteArray))), (wrap64 (b1 + 1))) else none
     else
      none
    else
     some (b2, 0)
def impl_ReadScript_L16 (impl_PartsOf : Nat → ByteArray → Option (List ByteArray × Bool)) (impl_linesOf : Nat → ByteArray → Option (List ByteArray)) (impl_readIn : Nat → List ByteArray → Option ((Int × ByteArray × ByteArray) × Int × Bool)) : Nat → Int × Int × Int × Int × (List (Int × (ByteArray × ByteArray))) × Int × ByteArray × ByteArray × List ByteArray × Unit → Option (((List (Int × (ByteArray × ByteArray)))) × Int)
  | 0, _ => none
  | k + 1, (b0, b1, b2, b3, b4, b5, b6, b7, b8, ()) =>
    if b3 < b2 then
     if (((List.length b4 + List.length [(b5, (b6, b7))] : Nat) : Int) * ((40 : Nat) : Int)) ≤ 140737488355328 then impl_ReadScript_L16 impl_PartsOf impl_linesOf impl_readIn k (b0, b1, b2, (wrap64 (b3 + 1)), (b4 ++ [(b5, (b6, b7))]), b5, b6, b7, b8, ()) else none
    else
     impl_ReadScript_L6 impl_PartsOf impl_linesOf impl_readIn k (b0, (wrap64 (b1 + 1)), b4, b8, ())
end
def impl_ReadScript_ (impl_PartsOf : Nat → ByteArray → Option (List ByteArray × Bool)) (impl_linesOf : Nat → ByteArray → Option (List ByteArray)) (impl_readIn : Nat → List ByteArray → Option ((Int × ByteArray × ByteArray) × Int × Bool)) (k : Nat) : ByteArray → Option (((List (Int × (ByteArray × ByteArray)))) × Int)
  | a0 =>
  (impl_linesOf k a0).bind fun v0 =>
  if 3000 < ((ByteArray.size a0 : Nat) : Int) then
   some (([] : List (Int × (ByteArray × ByteArray))), (-1))
  else
   if 120 < ((List.length v0 : Nat) : Int) then
    some (([] : List (Int × (ByteArray × ByteArray))), (-1))
   else
    impl_ReadScript_L6 impl_PartsOf impl_linesOf impl_readIn k (((List.length v0 : Nat) : Int), 0, ([] : List (Int × (ByteArray × ByteArray))), v0, ())
noncomputable def g_impl_ReadScript : ByteArray → Option (((List (Int × (ByteArray × ByteArray)))) × Int) := evG (impl_ReadScript_ (fun _ => g_impl_PartsOf) (fun _ => g_impl_linesOf) (fun _ => g_impl_readIn))
theorem e_impl_ReadScript : ∀ x b, g_impl_ReadScript x = some b → ∃ k, impl_ReadScript_ (fun _ => g_impl_PartsOf) (fun _ => g_impl_linesOf) (fun _ => g_impl_readIn) k x = some b := evG_e _
/- impl_Console -/
def con_impl_Console (f : Nat → ByteArray → Option (ByteArray)) : Con := ⟨[.c (.str)], 1, [.v false [.str]], f⟩
def impl_Console_L7 (impl_Decimal : Nat → Int → Option (ByteArray)) (impl_ReadScript : Nat → ByteArray → Option (((List (Int × (ByteArray × ByteArray)))) × Int)) (impl_RunDevice : Nat → ((List (Int × (ByteArray × ByteArray)))) → Option ((Int × Int × Int × Int × Int × Int × Int × Int × List Int × Int × Int × Bool × Int × Int × ByteArray × (List (Int × (Int × Int))) × Int) × Bool)) (impl_ShowDevice : Nat → (Int × Int × Int × Int × Int × Int × Int × Int × List Int × Int × Int × Bool × Int × Int × ByteArray × (List (Int × (Int × Int))) × Int) → Option (ByteArray)) (strings_Join : Nat → List ByteArray × ByteArray → Option (ByteArray)) : Nat → Int × Int × Int × Int × Int × Int × Int × Int × Int × Int × Int × Int × Bool × Int × Int × ByteArray × Int × List ByteArray × (List (Int × (Int × Int))) × List Int × Unit → Option (ByteArray)
  | 0, _ => none
  | k + 1, (b0, b1, b2, b3, b4, b5, b6, b7, b8, b9, b10, b11, b12, b13, b14, b15, b16, b17, b18, b19, ()) =>
    if b1 < b0 then
     if 0 ≤ b1 then
      if b1 < ((List.length b18 : Nat) : Int) then (impl_Decimal k (List.getD b18 (Int.toNat b1) (0, (0, 0))).1).bind fun v0 =>
       if (((List.length b17 + List.length [v0] : Nat) : Int) * ((16 : Nat) : Int)) ≤ 140737488355328 then impl_Console_L7 impl_Decimal impl_ReadScript impl_RunDevice impl_ShowDevice strings_Join k (b0, (wrap64 (b1 + 1)), b2, b3, b4, b5, b6, b7, b8, b9, b10, b11, b12, b13, b14, b15, b16, (b17 ++ [v0]), b18, b19, ()) else none else none
     else
      none
    else
     (strings_Join k (b17, (⟨#[32]⟩ : ByteArray))).bind fun v1 =>
     if v1 = (⟨#[]⟩ : ByteArray) then
      (impl_ShowDevice k (b2, (b3, (b4, (b5, (b6, (b7, (b8, (b9, (b19, (b10, (b11, (b12, (b13, (b14, (b15, (b18, b16))))))))))))))))).bind fun v2 =>
      if ((ByteArray.size v1 + ByteArray.size v2 : Nat) : Int) ≤ 9223372036854775807 then some (v1 ++ v2) else none
     else
      if ((ByteArray.size v1 + ByteArray.size (⟨#[10]⟩ : ByteArray) : Nat) : Int) ≤ 9223372036854775807 then (impl_ShowDevice k (b2, (b3, (b4, (b5, (b6, (b7, (b8, (b9, (b19, (b10, (b11, (b12, (b13, (b14, (b15, (b18, b16))))))))))))))))).bind fun v3 =>
       if ((ByteArray.size (v1 ++ (⟨#[10]⟩ : ByteArray)) + ByteArray.size v3 : Nat) : Int) ≤ 9223372036854775807 then some ((v1 ++ (⟨#[10]⟩ : ByteArray)) ++ v3) else none else none
def impl_Console_ (impl_Decimal : Nat → Int → Option (ByteArray)) (impl_ReadScript : Nat → ByteArray → Option (((List (Int × (ByteArray × ByteArray)))) × Int)) (impl_RunDevice : Nat → ((List (Int × (ByteArray × ByteArray)))) → Option ((Int × Int × Int × Int × Int × Int × Int × Int × List Int × Int × Int × Bool × Int × Int × ByteArray × (List (Int × (Int × Int))) × Int) × Bool)) (impl_ShowDevice : Nat → (Int × Int × Int × Int × Int × Int × Int × Int × List Int × Int × Int × Bool × Int × Int × ByteArray × (List (Int × (Int × Int))) × Int) → Option (ByteArray)) (strings_Join : Nat → List ByteArray × ByteArray → Option (ByteArray)) (k : Nat) : ByteArray → Option (ByteArray)
  | a0 =>
  (impl_ReadScript k a0).bind fun v0 =>
  if v0.2 = 0 then
   (impl_RunDevice k v0.1).bind fun v1 =>
   impl_Console_L7 impl_Decimal impl_ReadScript impl_RunDevice impl_ShowDevice strings_Join k (((List.length v1.1.2.2.2.2.2.2.2.2.2.2.2.2.2.2.2.1 : Nat) : Int), 0, v1.1.1, v1.1.2.1, v1.1.2.2.1, v1.1.2.2.2.1, v1.1.2.2.2.2.1, v1.1.2.2.2.2.2.1, v1.1.2.2.2.2.2.2.1, v1.1.2.2.2.2.2.2.2.1, v1.1.2.2.2.2.2.2.2.2.2.1, v1.1.2.2.2.2.2.2.2.2.2.2.1, v1.1.2.2.2.2.2.2.2.2.2.2.2.1, v1.1.2.2.2.2.2.2.2.2.2.2.2.2.1, v1.1.2.2.2.2.2.2.2.2.2.2.2.2.2.1, v1.1.2.2.2.2.2.2.2.2.2.2.2.2.2.2.1, v1.1.2.2.2.2.2.2.2.2.2.2.2.2.2.2.2.2, ([] : List ByteArray), v1.1.2.2.2.2.2.2.2.2.2.2.2.2.2.2.2.1, v1.1.2.2.2.2.2.2.2.2.1, ())
  else
   (impl_Decimal k v0.2).bind fun v2 =>
   if ((ByteArray.size (⟨#[102, 97, 117, 108, 116, 32]⟩ : ByteArray) + ByteArray.size v2 : Nat) : Int) ≤ 9223372036854775807 then
    if ((ByteArray.size ((⟨#[102, 97, 117, 108, 116, 32]⟩ : ByteArray) ++ v2) + ByteArray.size (⟨#[10]⟩ : ByteArray) : Nat) : Int) ≤ 9223372036854775807 then some (((⟨#[102, 97, 117, 108, 116, 32]⟩ : ByteArray) ++ v2) ++ (⟨#[10]⟩ : ByteArray)) else none
   else
    none
noncomputable def g_impl_Console : ByteArray → Option (ByteArray) := evG (impl_Console_ (fun _ => g_impl_Decimal) (fun _ => g_impl_ReadScript) (fun _ => g_impl_RunDevice) (fun _ => g_impl_ShowDevice) (fun _ => g_strings_Join))
theorem e_impl_Console : ∀ x b, g_impl_Console x = some b → ∃ k, impl_Console_ (fun _ => g_impl_Decimal) (fun _ => g_impl_ReadScript) (fun _ => g_impl_RunDevice) (fun _ => g_impl_ShowDevice) (fun _ => g_strings_Join) k x = some b := evG_e _
/- spec_l01Figure -/
def con_spec_l01Figure (f : Nat → Int → Option (Int)) : Con := ⟨[.c (.int .i64)], 1, [.v false [.int .u8]], f⟩
def spec_l01Figure_ (k : Nat) : Int → Option (Int)
  | a0 =>
  if a0 < 10 then
   some (wr .u8 (wrap64 (48 + a0)))
  else
   some (wr .u8 (wrap64 ((wrap64 (97 + a0)) - 10)))
noncomputable def g_spec_l01Figure : Int → Option (Int) := spec_l01Figure_  0
theorem e_spec_l01Figure : ∀ x b, g_spec_l01Figure x = some b → ∃ k, spec_l01Figure_  k x = some b := fun x b h => ⟨0, h⟩
/- spec_Decimal -/
def con_spec_Decimal (f : Nat → Int → Option (ByteArray)) : Con := ⟨[.c (.int .i64)], 1, [.v false [.str]], f⟩
def spec_Decimal_L5 (spec_l01Figure : Nat → Int → Option (Int)) : Nat → Int × Bool × ByteArray × Unit → Option (ByteArray)
  | 0, _ => none
  | k + 1, (b0, b1, b2, ()) =>
    if b0 = 0 then
     if b1 = true then
      if ((ByteArray.size (⟨#[45]⟩ : ByteArray) + ByteArray.size b2 : Nat) : Int) ≤ 9223372036854775807 then some ((⟨#[45]⟩ : ByteArray) ++ b2) else none
     else
      some b2
    else
     if 10 = 0 then
      none
     else
      if (Int.tmod b0 10) < 0 then
       (spec_l01Figure k (wrap64 (0 - (Int.tmod b0 10)))).bind fun v0 =>
       if ((ByteArray.size (bstr [v0]) + ByteArray.size b2 : Nat) : Int) ≤ 9223372036854775807 then
        if 10 = 0 then
         none
        else
         spec_Decimal_L5 spec_l01Figure k ((wrap64 (Int.tdiv b0 10)), b1, ((bstr [v0]) ++ b2), ())
       else
        none
      else
       (spec_l01Figure k (Int.tmod b0 10)).bind fun v1 =>
       if ((ByteArray.size (bstr [v1]) + ByteArray.size b2 : Nat) : Int) ≤ 9223372036854775807 then
        if 10 = 0 then
         none
        else
         spec_Decimal_L5 spec_l01Figure k ((wrap64 (Int.tdiv b0 10)), b1, ((bstr [v1]) ++ b2), ())
       else
        none
def spec_Decimal_ (spec_l01Figure : Nat → Int → Option (Int)) (k : Nat) : Int → Option (ByteArray)
  | a0 =>
  if a0 = 0 then
   some (⟨#[48]⟩ : ByteArray)
  else
   spec_Decimal_L5 spec_l01Figure k (a0, (decide (a0 < 0)), (⟨#[]⟩ : ByteArray), ())
noncomputable def g_spec_Decimal : Int → Option (ByteArray) := evG (spec_Decimal_ (fun _ => g_spec_l01Figure))
theorem e_spec_Decimal : ∀ x b, g_spec_Decimal x = some b → ∃ k, spec_Decimal_ (fun _ => g_spec_l01Figure) k x = some b := evG_e _
/- spec_l01Byte -/
def con_spec_l01Byte (f : Nat → (List Int × Int × Int) → Option (Int × (Unit × Int × Int))) : Con := ⟨[.ptr [.sl (.int .u8), .int .i64, .int .i64] 72], 1, [.v false [.int .i64], .box [.keep, .int .i64, .int .i64] 72], f⟩
def spec_l01Byte_ (k : Nat) : (List Int × Int × Int) → Option (Int × (Unit × Int × Int))
  | (a0, a1, a2) =>
  if 0 ≤ 33 then
   if 0 ≤ 45 then
    if a1 < ((List.length a0 : Nat) : Int) then
     if 0 ≤ a1 then
      if a1 < ((List.length a0 : Nat) : Int) then some ((iand .i64 (wrap64 ((iand .i64 (ixor .i64 (Int.fdiv (wrap64 ((wrap64 (a2 * 6364136223846793005)) + 1442695040888963407)) (2 ^ (min (Int.toNat 33) (IntKind.bits .i64)))) (Int.fdiv (wrap64 ((wrap64 (a2 * 6364136223846793005)) + 1442695040888963407)) (2 ^ (min (Int.toNat 45) (IntKind.bits .i64))))) 255) + (wrap64 (List.getD a0 (Int.toNat a1) 0)))) 255), ((), ((wrap64 (a1 + 1)), (wrap64 ((wrap64 (a2 * 6364136223846793005)) + 1442695040888963407))))) else none
     else
      none
    else
     some ((iand .i64 (ixor .i64 (Int.fdiv (wrap64 ((wrap64 (a2 * 6364136223846793005)) + 1442695040888963407)) (2 ^ (min (Int.toNat 33) (IntKind.bits .i64)))) (Int.fdiv (wrap64 ((wrap64 (a2 * 6364136223846793005)) + 1442695040888963407)) (2 ^ (min (Int.toNat 45) (IntKind.bits .i64))))) 255), ((), (a1, (wrap64 ((wrap64 (a2 * 6364136223846793005)) + 1442695040888963407)))))
   else
    none
  else
   none
noncomputable def g_spec_l01Byte : (List Int × Int × Int) → Option (Int × (Unit × Int × Int)) := spec_l01Byte_  0
theorem e_spec_l01Byte : ∀ x b, g_spec_l01Byte x = some b → ∃ k, spec_l01Byte_  k x = some b := fun x b h => ⟨0, h⟩
/- spec_l01Below -/
def con_spec_l01Below (f : Nat → (List Int × Int × Int) × Int → Option (Int × (Unit × Int × Int))) : Con := ⟨[.ptr [.sl (.int .u8), .int .i64, .int .i64] 72, .c (.int .i64)], 1, [.v false [.int .i64], .box [.keep, .int .i64, .int .i64] 72], f⟩
def spec_l01Below_ (spec_l01Byte : Nat → (List Int × Int × Int) → Option (Int × (Unit × Int × Int))) (k : Nat) : (List Int × Int × Int) × Int → Option (Int × (Unit × Int × Int))
  | ((a0, a1, a2), a3) =>
  if a3 ≤ 0 then
   some (0, ((), (a1, a2)))
  else
   if a3 ≤ 256 then
    (spec_l01Byte k (a0, (a1, a2))).bind fun v0 =>
    if a3 = 0 then
     none
    else
     some ((Int.tmod v0.1 a3), ((), v0.2.2))
   else
    (spec_l01Byte k (a0, (a1, a2))).bind fun v1 =>
    (spec_l01Byte k (a0, v1.2.2)).bind fun v2 =>
    (spec_l01Byte k (a0, v2.2.2)).bind fun v3 =>
    (spec_l01Byte k (a0, v3.2.2)).bind fun v4 =>
    if a3 = 0 then
     none
    else
     some ((Int.tmod (wrap64 ((wrap64 ((wrap64 ((wrap64 (v1.1 * 16777216)) + (wrap64 (v2.1 * 65536)))) + (wrap64 (v3.1 * 256)))) + v4.1)) a3), ((), v4.2.2))
noncomputable def g_spec_l01Below : (List Int × Int × Int) × Int → Option (Int × (Unit × Int × Int)) := spec_l01Below_ (fun _ => g_spec_l01Byte) 0
theorem e_spec_l01Below : ∀ x b, g_spec_l01Below x = some b → ∃ k, spec_l01Below_ (fun _ => g_spec_l01Byte) k x = some b := fun x b h => ⟨0, h⟩
/- spec_l01New -/
def con_spec_l01New (f : Nat → List Int → Option ((Unit × Int × Int))) : Con := ⟨[.c (.sl (.int .u8))], 1, [.box [.al 0 0, .int .i64, .int .i64] 72], f⟩
def spec_l01New_L3 : Nat → Int × Int × List Int × Unit → Option ((Unit × Int × Int))
  | 0, _ => none
  | k + 1, (b0, b1, b2, ()) =>
    if b1 < ((List.length b2 : Nat) : Int) then
     if b1 < 4000 then
      if 0 ≤ b1 then
       if b1 < ((List.length b2 : Nat) : Int) then spec_l01New_L3 k ((iand .i64 (wrap64 ((wrap64 ((wrap64 (b0 * 131)) + (wrap64 (List.getD b2 (Int.toNat b1) 0)))) + 7)) 1073741823), (wrap64 (b1 + 1)), b2, ()) else none
      else
       none
     else
      some ((), (0, b0))
    else
     some ((), (0, b0))
def spec_l01New_ (k : Nat) : List Int → Option ((Unit × Int × Int))
  | a0 =>
  spec_l01New_L3 k ((wrap64 (37101 + ((List.length a0 : Nat) : Int))), 0, a0, ())
noncomputable def g_spec_l01New : List Int → Option ((Unit × Int × Int)) := evG (spec_l01New_ )
theorem e_spec_l01New : ∀ x b, g_spec_l01New x = some b → ∃ k, spec_l01New_  k x = some b := evG_e _
/- spec_DrawPlaces -/
def con_spec_DrawPlaces (f : Nat → List Int → Option (List Int)) : Con := ⟨[.c (.sl (.int .u8))], 1, [.v false [.own (.int .i64) 3]], f⟩
def spec_DrawPlaces_L5 (spec_l01Below : Nat → (List Int × Int × Int) × Int → Option (Int × (Unit × Int × Int))) (spec_l01Byte : Nat → (List Int × Int × Int) → Option (Int × (Unit × Int × Int))) (spec_l01New : Nat → List Int → Option ((Unit × Int × Int))) : Nat → Int × List Int × Int × Int × List Int × Unit → Option (List Int)
  | 0, _ => none
  | k + 1, (b0, b1, b2, b3, b4, ()) =>
    if b0 < 12 then
     (spec_l01Below k ((b1, (b2, b3)), 10000)).bind fun v0 =>
     if (((List.length b4 + List.length [v0.1] : Nat) : Int) * ((8 : Nat) : Int)) ≤ 140737488355328 then spec_DrawPlaces_L5 spec_l01Below spec_l01Byte spec_l01New k ((wrap64 (b0 + 1)), b1, v0.2.2.1, v0.2.2.2, (b4 ++ [v0.1]), ()) else none
    else
     some b4
def spec_DrawPlaces_ (spec_l01Below : Nat → (List Int × Int × Int) × Int → Option (Int × (Unit × Int × Int))) (spec_l01Byte : Nat → (List Int × Int × Int) → Option (Int × (Unit × Int × Int))) (spec_l01New : Nat → List Int → Option ((Unit × Int × Int))) (k : Nat) : List Int → Option (List Int)
  | a0 =>
  (spec_l01New k a0).bind fun v0 =>
  (spec_l01Byte k (a0, v0.2)).bind fun v1 =>
  spec_DrawPlaces_L5 spec_l01Below spec_l01Byte spec_l01New k (0, a0, v1.2.2.1, v1.2.2.2, ([] : List Int), ())
noncomputable def g_spec_DrawPlaces : List Int → Option (List Int) := evG (spec_DrawPlaces_ (fun _ => g_spec_l01Below) (fun _ => g_spec_l01Byte) (fun _ => g_spec_l01New))
theorem e_spec_DrawPlaces : ∀ x b, g_spec_DrawPlaces x = some b → ∃ k, spec_DrawPlaces_ (fun _ => g_spec_l01Below) (fun _ => g_spec_l01Byte) (fun _ => g_spec_l01New) k x = some b := evG_e _
/- laws_big -/
def con_laws_big (f : Nat → List Int → Option (Bool)) : Con := ⟨[.c (.sl (.int .u8))], 1, [.v false [.bool]], f⟩
def laws_big_ (k : Nat) : List Int → Option (Bool)
  | a0 =>
  some (decide (1048576 < ((List.length a0 : Nat) : Int)))
noncomputable def g_laws_big : List Int → Option (Bool) := laws_big_  0
theorem e_laws_big : ∀ x b, g_laws_big x = some b → ∃ k, laws_big_  k x = some b := fun x b h => ⟨0, h⟩
/- laws_FnMany -/
def con_laws_FnMany (f : Nat → List Int → Option (Bool)) : Con := ⟨[.c (.sl (.int .u8))], 1, [.v false [.bool]], f⟩
def laws_FnMany_L8 (impl_Console : Nat → ByteArray → Option (ByteArray)) (impl_ReadScript : Nat → ByteArray → Option (((List (Int × (ByteArray × ByteArray)))) × Int)) (laws_big : Nat → List Int → Option (Bool)) (spec_Decimal : Nat → Int → Option (ByteArray)) (spec_DrawPlaces : Nat → List Int → Option (List Int)) : Nat → Int × ByteArray × ByteArray × Int × Unit → Option (Bool)
  | 0, _ => none
  | k + 1, (b0, b1, b2, b3, ()) =>
    if b3 < b0 then
     if ((ByteArray.size b2 + ByteArray.size (⟨#[116, 105, 99, 107, 10]⟩ : ByteArray) : Nat) : Int) ≤ 9223372036854775807 then laws_FnMany_L8 impl_Console impl_ReadScript laws_big spec_Decimal spec_DrawPlaces k (b0, b1, (b2 ++ (⟨#[116, 105, 99, 107, 10]⟩ : ByteArray)), (wrap64 (b3 + 1)), ()) else none
    else
     (impl_ReadScript k b2).bind fun v0 =>
     (impl_Console k b2).bind fun v1 =>
     if b1 = v1 then
      if v0.2 = 0 then
       if ((List.length v0.1 : Nat) : Int) = (wrap64 (b0 + 1)) then
        (impl_Console k (⟨#[119, 104, 97, 116]⟩ : ByteArray)).bind fun v2 =>
        some (decide (v2 = (⟨#[102, 97, 117, 108, 116, 32, 49, 10]⟩ : ByteArray)))
       else
        some false
      else
       some false
     else
      some false
def laws_FnMany_ (impl_Console : Nat → ByteArray → Option (ByteArray)) (impl_ReadScript : Nat → ByteArray → Option (((List (Int × (ByteArray × ByteArray)))) × Int)) (laws_big : Nat → List Int → Option (Bool)) (spec_Decimal : Nat → Int → Option (ByteArray)) (spec_DrawPlaces : Nat → List Int → Option (List Int)) (k : Nat) : List Int → Option (Bool)
  | a0 =>
  (laws_big k a0).bind fun v0 =>
  if v0 = true then
   some true
  else
   (spec_DrawPlaces k a0).bind fun v1 =>
   if 0 ≤ 0 then
    if 0 < ((List.length v1 : Nat) : Int) then
     if 50 = 0 then
      none
     else
      if ((ByteArray.size (⟨#[107, 101, 121, 115, 32, 98, 50, 46, 49, 46, 54, 48, 46, 10]⟩ : ByteArray) + ByteArray.size (⟨#[109, 97, 110, 121, 32]⟩ : ByteArray) : Nat) : Int) ≤ 9223372036854775807 then (spec_Decimal k (wrap64 (1 + (Int.tmod (List.getD v1 (Int.toNat 0) 0) 50)))).bind fun v2 =>
       if ((ByteArray.size ((⟨#[107, 101, 121, 115, 32, 98, 50, 46, 49, 46, 54, 48, 46, 10]⟩ : ByteArray) ++ (⟨#[109, 97, 110, 121, 32]⟩ : ByteArray)) + ByteArray.size v2 : Nat) : Int) ≤ 9223372036854775807 then
        if ((ByteArray.size (((⟨#[107, 101, 121, 115, 32, 98, 50, 46, 49, 46, 54, 48, 46, 10]⟩ : ByteArray) ++ (⟨#[109, 97, 110, 121, 32]⟩ : ByteArray)) ++ v2) + ByteArray.size (⟨#[10]⟩ : ByteArray) : Nat) : Int) ≤ 9223372036854775807 then (impl_Console k ((((⟨#[107, 101, 121, 115, 32, 98, 50, 46, 49, 46, 54, 48, 46, 10]⟩ : ByteArray) ++ (⟨#[109, 97, 110, 121, 32]⟩ : ByteArray)) ++ v2) ++ (⟨#[10]⟩ : ByteArray))).bind fun v3 =>
         laws_FnMany_L8 impl_Console impl_ReadScript laws_big spec_Decimal spec_DrawPlaces k ((wrap64 (1 + (Int.tmod (List.getD v1 (Int.toNat 0) 0) 50))), v3, (⟨#[107, 101, 121, 115, 32, 98, 50, 46, 49, 46, 54, 48, 46, 10]⟩ : ByteArray), 0, ()) else none
       else
        none else none
    else
     none
   else
    none
noncomputable def g_laws_FnMany : List Int → Option (Bool) := evG (laws_FnMany_ (fun _ => g_impl_Console) (fun _ => g_impl_ReadScript) (fun _ => g_laws_big) (fun _ => g_spec_Decimal) (fun _ => g_spec_DrawPlaces))
theorem e_laws_FnMany : ∀ x b, g_laws_FnMany x = some b → ∃ k, laws_FnMany_ (fun _ => g_impl_Console) (fun _ => g_impl_ReadScript) (fun _ => g_laws_big) (fun _ => g_spec_Decimal) (fun _ => g_spec_DrawPlaces) k x = some b := evG_e _
/- spec_l01In -/
def con_spec_l01In (f : Nat → Int × Int × Int → Option (Bool)) : Con := ⟨[.c (.int .i64), .c (.int .i64), .c (.int .i64)], 1, [.v false [.bool]], f⟩
def spec_l01In_ (k : Nat) : Int × Int × Int → Option (Bool)
  | (a0, a1, a2) =>
  if a1 ≤ a0 then
   some (decide (a0 ≤ a2))
  else
   some false
noncomputable def g_spec_l01In : Int × Int × Int → Option (Bool) := spec_l01In_  0
theorem e_spec_l01In : ∀ x b, g_spec_l01In x = some b → ∃ k, spec_l01In_  k x = some b := fun x b h => ⟨0, h⟩
/- spec_SenseOk -/
def con_spec_SenseOk (f : Nat → Int → Option (Bool)) : Con := ⟨[.c (.int .i64)], 1, [.v false [.bool]], f⟩
def spec_SenseOk_ (spec_l01In : Nat → Int × Int × Int → Option (Bool)) (k : Nat) : Int → Option (Bool)
  | a0 =>
  (spec_l01In k (a0, (0, 15))).bind fun v0 =>
  some v0
noncomputable def g_spec_SenseOk : Int → Option (Bool) := spec_SenseOk_ (fun _ => g_spec_l01In) 0
theorem e_spec_SenseOk : ∀ x b, g_spec_SenseOk x = some b → ∃ k, spec_SenseOk_ (fun _ => g_spec_l01In) k x = some b := fun x b h => ⟨0, h⟩
/- spec_Has -/
def con_spec_Has (f : Nat → Int × Int → Option (Bool)) : Con := ⟨[.c (.int .i64), .c (.int .i64)], 1, [.v false [.bool]], f⟩
def spec_Has_ (spec_SenseOk : Nat → Int → Option (Bool)) (k : Nat) : Int × Int → Option (Bool)
  | (a0, a1) =>
  (spec_SenseOk k a0).bind fun v0 =>
  if v0 = true then
   if a1 = 1 then
    if a1 = 0 then
     none
    else
     if 2 = 0 then
      none
     else
      some (decide ((Int.tmod (wrap64 (Int.tdiv a0 a1)) 2) = 1))
   else
    if a1 = 2 then
     if a1 = 0 then
      none
     else
      if 2 = 0 then
       none
      else
       some (decide ((Int.tmod (wrap64 (Int.tdiv a0 a1)) 2) = 1))
    else
     if a1 = 4 then
      if a1 = 0 then
       none
      else
       if 2 = 0 then
        none
       else
        some (decide ((Int.tmod (wrap64 (Int.tdiv a0 a1)) 2) = 1))
     else
      if a1 = 8 then
       if a1 = 0 then
        none
       else
        if 2 = 0 then
         none
        else
         some (decide ((Int.tmod (wrap64 (Int.tdiv a0 a1)) 2) = 1))
      else
       some false
  else
   some false
noncomputable def g_spec_Has : Int × Int → Option (Bool) := spec_Has_ (fun _ => g_spec_SenseOk) 0
theorem e_spec_Has : ∀ x b, g_spec_Has x = some b → ∃ k, spec_Has_ (fun _ => g_spec_SenseOk) k x = some b := fun x b h => ⟨0, h⟩
/- spec_SenseNames -/
def con_spec_SenseNames (f : Nat → Int → Option (ByteArray)) : Con := ⟨[.c (.int .i64)], 1, [.v false [.str]], f⟩
def spec_SenseNames_L7 (spec_Has : Nat → Int × Int → Option (Bool)) (spec_SenseOk : Nat → Int → Option (Bool)) : Nat → Int × ByteArray × Int × List ByteArray × List Int × Unit → Option (ByteArray)
  | 0, _ => none
  | k + 1, (b0, b1, b2, b3, b4, ()) =>
    if b2 < 4 then
     if 0 ≤ b2 then
      if b2 < ((List.length b4 : Nat) : Int) then (spec_Has k (b0, (List.getD b4 (Int.toNat b2) 0))).bind fun v0 =>
       if v0 = true then
        if b1 = (⟨#[]⟩ : ByteArray) then
         if 0 ≤ b2 then
          if b2 < ((List.length b3 : Nat) : Int) then
           if ((ByteArray.size b1 + ByteArray.size (List.getD b3 (Int.toNat b2) (⟨#[]⟩ : ByteArray)) : Nat) : Int) ≤ 9223372036854775807 then spec_SenseNames_L7 spec_Has spec_SenseOk k (b0, (b1 ++ (List.getD b3 (Int.toNat b2) (⟨#[]⟩ : ByteArray))), (wrap64 (b2 + 1)), b3, b4, ()) else none
          else
           none
         else
          none
        else
         if ((ByteArray.size b1 + ByteArray.size (⟨#[44]⟩ : ByteArray) : Nat) : Int) ≤ 9223372036854775807 then
          if 0 ≤ b2 then
           if b2 < ((List.length b3 : Nat) : Int) then
            if ((ByteArray.size (b1 ++ (⟨#[44]⟩ : ByteArray)) + ByteArray.size (List.getD b3 (Int.toNat b2) (⟨#[]⟩ : ByteArray)) : Nat) : Int) ≤ 9223372036854775807 then spec_SenseNames_L7 spec_Has spec_SenseOk k (b0, ((b1 ++ (⟨#[44]⟩ : ByteArray)) ++ (List.getD b3 (Int.toNat b2) (⟨#[]⟩ : ByteArray))), (wrap64 (b2 + 1)), b3, b4, ()) else none
           else
            none
          else
           none
         else
          none
       else
        spec_SenseNames_L7 spec_Has spec_SenseOk k (b0, b1, (wrap64 (b2 + 1)), b3, b4, ()) else none
     else
      none
    else
     if b1 = (⟨#[]⟩ : ByteArray) then
      some (⟨#[110, 111, 110, 101]⟩ : ByteArray)
     else
      some b1
def spec_SenseNames_ (spec_Has : Nat → Int × Int → Option (Bool)) (spec_SenseOk : Nat → Int → Option (Bool)) (k : Nat) : Int → Option (ByteArray)
  | a0 =>
  (spec_SenseOk k a0).bind fun v0 =>
  if v0 = true then
   spec_SenseNames_L7 spec_Has spec_SenseOk k (a0, (⟨#[]⟩ : ByteArray), 0, [(⟨#[98, 108, 111, 99, 107]⟩ : ByteArray), (⟨#[97, 105, 114]⟩ : ByteArray), (⟨#[100, 111, 111, 114]⟩ : ByteArray), (⟨#[112, 111, 119, 101, 114]⟩ : ByteArray)], [1, 2, 4, 8], ())
  else
   some (⟨#[]⟩ : ByteArray)
noncomputable def g_spec_SenseNames : Int → Option (ByteArray) := evG (spec_SenseNames_ (fun _ => g_spec_Has) (fun _ => g_spec_SenseOk))
theorem e_spec_SenseNames : ∀ x b, g_spec_SenseNames x = some b → ∃ k, spec_SenseNames_ (fun _ => g_spec_Has) (fun _ => g_spec_SenseOk) k x = some b := evG_e _
/- spec_MenuOk -/
def con_spec_MenuOk (f : Nat → (Int × Bool × Int × Int × ByteArray) → Option (Bool)) : Con := ⟨[.agg [.int .i64, .bool, .int .i64, .int .i64, .str]], 1, [.v false [.bool]], f⟩
def spec_MenuOk_L4 (spec_l01In : Nat → Int × Int × Int → Option (Bool)) : Nat → Int × Int × Bool × Int × Int × ByteArray × Unit → Option (Bool)
  | 0, _ => none
  | k + 1, (b0, b1, b2, b3, b4, b5, ()) =>
    if b0 < ((ByteArray.size b5 : Nat) : Int) then
     if 0 ≤ b0 then
      if b0 < ((ByteArray.size b5 : Nat) : Int) then
       if (byt b5 b0) < 48 then
        some false
       else
        if 0 ≤ b0 then
         if b0 < ((ByteArray.size b5 : Nat) : Int) then
          if 57 < (byt b5 b0) then
           some false
          else
           spec_MenuOk_L4 spec_l01In k ((wrap64 (b0 + 1)), b1, b2, b3, b4, b5, ())
         else
          none
        else
         none
      else
       none
     else
      none
    else
     if b1 = 1 then
      if b5 = (⟨#[]⟩ : ByteArray) then
       if b2 = true then
        some false
       else
        if b3 = 0 then
         some (decide (b4 = 0))
        else
         some false
      else
       some false
     else
      some true
def spec_MenuOk_ (spec_l01In : Nat → Int × Int × Int → Option (Bool)) (k : Nat) : (Int × Bool × Int × Int × ByteArray) → Option (Bool)
  | (a0, a1, a2, a3, a4) =>
  (spec_l01In k (a0, (1, 4))).bind fun v0 =>
  if v0 = true then
   (spec_l01In k (a2, (0, 9999))).bind fun v1 =>
   if v1 = true then
    (spec_l01In k (a3, (0, 9999))).bind fun v2 =>
    if v2 = true then
     if 4 < ((ByteArray.size a4 : Nat) : Int) then
      some false
     else
      spec_MenuOk_L4 spec_l01In k (0, a0, a1, a2, a3, a4, ())
    else
     some false
   else
    some false
  else
   some false
noncomputable def g_spec_MenuOk : (Int × Bool × Int × Int × ByteArray) → Option (Bool) := evG (spec_MenuOk_ (fun _ => g_spec_l01In))
theorem e_spec_MenuOk : ∀ x b, g_spec_MenuOk x = some b → ∃ k, spec_MenuOk_ (fun _ => g_spec_l01In) k x = some b := evG_e _
/- spec_l16Sum -/
def con_spec_l16Sum (f : Nat → List Int → Option (Int)) : Con := ⟨[.c (.sl (.int .i64))], 1, [.v false [.int .i64]], f⟩
def spec_l16Sum_L3 : Nat → Int × Int × List Int × Unit → Option (Int)
  | 0, _ => none
  | k + 1, (b0, b1, b2, ()) =>
    if b1 < ((List.length b2 : Nat) : Int) then
     if 0 ≤ b1 then
      if b1 < ((List.length b2 : Nat) : Int) then spec_l16Sum_L3 k ((wrap64 (b0 + (List.getD b2 (Int.toNat b1) 0))), (wrap64 (b1 + 1)), b2, ()) else none
     else
      none
    else
     some b0
def spec_l16Sum_ (k : Nat) : List Int → Option (Int)
  | a0 =>
  spec_l16Sum_L3 k (0, 0, a0, ())
noncomputable def g_spec_l16Sum : List Int → Option (Int) := evG (spec_l16Sum_ )
theorem e_spec_l16Sum : ∀ x b, g_spec_l16Sum x = some b → ∃ k, spec_l16Sum_  k x = some b := evG_e _
/- spec_GuardOk -/
def con_spec_GuardOk (f : Nat → (List Int × Int) → Option (Bool)) : Con := ⟨[.agg [.sl (.int .i64), .int .i64]], 1, [.v false [.bool]], f⟩
def spec_GuardOk_L4 (spec_SenseOk : Nat → Int → Option (Bool)) (spec_l01In : Nat → Int × Int × Int → Option (Bool)) (spec_l16Sum : Nat → List Int → Option (Int)) : Nat → Int × List Int × Int × Unit → Option (Bool)
  | 0, _ => none
  | k + 1, (b0, b1, b2, ()) =>
    if b0 < ((List.length b1 : Nat) : Int) then
     if 0 ≤ b0 then
      if b0 < ((List.length b1 : Nat) : Int) then (spec_l01In k ((List.getD b1 (Int.toNat b0) 0), (0, 30))).bind fun v0 =>
       if v0 = true then
        spec_GuardOk_L4 spec_SenseOk spec_l01In spec_l16Sum k ((wrap64 (b0 + 1)), b1, b2, ())
       else
        some false else none
     else
      none
    else
     (spec_l16Sum k b1).bind fun v1 =>
     some (decide (v1 ≤ 30))
def spec_GuardOk_ (spec_SenseOk : Nat → Int → Option (Bool)) (spec_l01In : Nat → Int × Int × Int → Option (Bool)) (spec_l16Sum : Nat → List Int → Option (Int)) (k : Nat) : (List Int × Int) → Option (Bool)
  | (a0, a1) =>
  if 9 < ((List.length a0 : Nat) : Int) then
   some false
  else
   (spec_SenseOk k a1).bind fun v0 =>
   if v0 = true then
    spec_GuardOk_L4 spec_SenseOk spec_l01In spec_l16Sum k (0, a0, a1, ())
   else
    some false
noncomputable def g_spec_GuardOk : (List Int × Int) → Option (Bool) := evG (spec_GuardOk_ (fun _ => g_spec_SenseOk) (fun _ => g_spec_l01In) (fun _ => g_spec_l16Sum))
theorem e_spec_GuardOk : ∀ x b, g_spec_GuardOk x = some b → ∃ k, spec_GuardOk_ (fun _ => g_spec_SenseOk) (fun _ => g_spec_l01In) (fun _ => g_spec_l16Sum) k x = some b := evG_e _
/- spec_RateOk -/
def con_spec_RateOk (f : Nat → (Int × Int × Int) → Option (Bool)) : Con := ⟨[.agg [.int .i64, .int .i64, .int .i64]], 1, [.v false [.bool]], f⟩
def spec_RateOk_ (spec_l01In : Nat → Int × Int × Int → Option (Bool)) (k : Nat) : (Int × Int × Int) → Option (Bool)
  | (a0, a1, a2) =>
  (spec_l01In k (a0, (0, 1000000))).bind fun v0 =>
  if v0 = true then
   (spec_l01In k (a1, (1, 1000000))).bind fun v1 =>
   if v1 = true then
    (spec_l01In k (a2, (0, (wrap64 (a1 - 1))))).bind fun v2 =>
    some v2
   else
    some false
  else
   some false
noncomputable def g_spec_RateOk : (Int × Int × Int) → Option (Bool) := spec_RateOk_ (fun _ => g_spec_l01In) 0
theorem e_spec_RateOk : ∀ x b, g_spec_RateOk x = some b → ∃ k, spec_RateOk_ (fun _ => g_spec_l01In) k x = some b := fun x b h => ⟨0, h⟩
/- spec_PumpOk -/
def con_spec_PumpOk (f : Nat → (Int × Int × Int × Int × Int × Int × Int × Int) → Option (Bool)) : Con := ⟨[.agg [.int .i64, .int .i64, .int .i64, .int .i64, .int .i64, .int .i64, .int .i64, .int .i64]], 1, [.v false [.bool]], f⟩
def spec_PumpOk_ (spec_RateOk : Nat → (Int × Int × Int) → Option (Bool)) (spec_l01In : Nat → Int × Int × Int → Option (Bool)) (k : Nat) : (Int × Int × Int × Int × Int × Int × Int × Int) → Option (Bool)
  | (a0, a1, a2, a3, a4, a5, a6, a7) =>
  if a0 = 1 then
   (spec_l01In k (a0, (0, 3))).bind fun v0 =>
   if v0 = true then
    (spec_RateOk k (a1, (a2, a3))).bind fun v1 =>
    if v1 = true then
     if (wrap64 (3 * a2)) < a1 then
      some false
     else
      (spec_l01In k (a4, (0, 5000))).bind fun v2 =>
      if v2 = true then
       if ((decide (0 < a4)) == true) = true then
        (spec_l01In k (a5, (0, 100))).bind fun v3 =>
        if v3 = true then
         (spec_l01In k (a6, (0, 1000000000000))).bind fun v4 =>
         if v4 = true then
          (spec_l01In k (a7, (0, 2))).bind fun v5 =>
          if v5 = true then
           if a0 = 3 then
            some true
           else
            some (decide (a7 = 0))
          else
           some false
         else
          some false
        else
         some false
       else
        some false
      else
       some false
    else
     some false
   else
    some false
  else
   if a0 = 3 then
    (spec_l01In k (a0, (0, 3))).bind fun v6 =>
    if v6 = true then
     (spec_RateOk k (a1, (a2, a3))).bind fun v7 =>
     if v7 = true then
      if (wrap64 (3 * a2)) < a1 then
       some false
      else
       (spec_l01In k (a4, (0, 5000))).bind fun v8 =>
       if v8 = true then
        if ((decide (0 < a4)) == (decide (a7 = 1))) = true then
         (spec_l01In k (a5, (0, 100))).bind fun v9 =>
         if v9 = true then
          (spec_l01In k (a6, (0, 1000000000000))).bind fun v10 =>
          if v10 = true then
           (spec_l01In k (a7, (0, 2))).bind fun v11 =>
           if v11 = true then
            if a0 = 3 then
             some true
            else
             some (decide (a7 = 0))
           else
            some false
          else
           some false
         else
          some false
        else
         some false
       else
        some false
     else
      some false
    else
     some false
   else
    (spec_l01In k (a0, (0, 3))).bind fun v12 =>
    if v12 = true then
     (spec_RateOk k (a1, (a2, a3))).bind fun v13 =>
     if v13 = true then
      if (wrap64 (3 * a2)) < a1 then
       some false
      else
       (spec_l01In k (a4, (0, 5000))).bind fun v14 =>
       if v14 = true then
        if ((decide (0 < a4)) == false) = true then
         (spec_l01In k (a5, (0, 100))).bind fun v15 =>
         if v15 = true then
          (spec_l01In k (a6, (0, 1000000000000))).bind fun v16 =>
          if v16 = true then
           (spec_l01In k (a7, (0, 2))).bind fun v17 =>
           if v17 = true then
            if a0 = 3 then
             some true
            else
             some (decide (a7 = 0))
           else
            some false
          else
           some false
         else
          some false
        else
         some false
       else
        some false
     else
      some false
    else
     some false
noncomputable def g_spec_PumpOk : (Int × Int × Int × Int × Int × Int × Int × Int) → Option (Bool) := spec_PumpOk_ (fun _ => g_spec_RateOk) (fun _ => g_spec_l01In) 0
theorem e_spec_PumpOk : ∀ x b, g_spec_PumpOk x = some b → ∃ k, spec_PumpOk_ (fun _ => g_spec_RateOk) (fun _ => g_spec_l01In) k x = some b := fun x b h => ⟨0, h⟩
/- spec_DeviceOk -/
def con_spec_DeviceOk (f : Nat → (Int × Int × Int × Int × Int × Int × Int × Int × List Int × Int × Int × Bool × Int × Int × ByteArray × (List (Int × (Int × Int))) × Int) → Option (Bool)) : Con := ⟨[.agg [.int .i64, .int .i64, .int .i64, .int .i64, .int .i64, .int .i64, .int .i64, .int .i64, .sl (.int .i64), .int .i64, .int .i64, .bool, .int .i64, .int .i64, .str, .sl (.pair (.int .i64) (.pair (.int .i64) (.int .i64))), .int .i64]], 1, [.v false [.bool]], f⟩
def spec_DeviceOk_ (spec_GuardOk : Nat → (List Int × Int) → Option (Bool)) (spec_MenuOk : Nat → (Int × Bool × Int × Int × ByteArray) → Option (Bool)) (spec_PumpOk : Nat → (Int × Int × Int × Int × Int × Int × Int × Int) → Option (Bool)) (spec_l01In : Nat → Int × Int × Int → Option (Bool)) (k : Nat) : (Int × Int × Int × Int × Int × Int × Int × Int × List Int × Int × Int × Bool × Int × Int × ByteArray × (List (Int × (Int × Int))) × Int) → Option (Bool)
  | (a0, a1, a2, a3, a4, a5, a6, a7, a8, a9, a10, a11, a12, a13, a14, a15, a16) =>
  (spec_PumpOk k (a0, (a1, (a2, (a3, (a4, (a5, (a6, a7)))))))).bind fun v0 =>
  if v0 = true then
   (spec_GuardOk k (a8, a9)).bind fun v1 =>
   if v1 = true then
    (spec_MenuOk k (a10, (a11, (a12, (a13, a14))))).bind fun v2 =>
    if v2 = true then
     if ((List.length a15 : Nat) : Int) ≤ 200 then
      (spec_l01In k (a16, (0, 1000000000))).bind fun v3 =>
      some v3
     else
      some false
    else
     some false
   else
    some false
  else
   some false
noncomputable def g_spec_DeviceOk : (Int × Int × Int × Int × Int × Int × Int × Int × List Int × Int × Int × Bool × Int × Int × ByteArray × (List (Int × (Int × Int))) × Int) → Option (Bool) := spec_DeviceOk_ (fun _ => g_spec_GuardOk) (fun _ => g_spec_MenuOk) (fun _ => g_spec_PumpOk) (fun _ => g_spec_l01In) 0
theorem e_spec_DeviceOk : ∀ x b, g_spec_DeviceOk x = some b → ∃ k, spec_DeviceOk_ (fun _ => g_spec_GuardOk) (fun _ => g_spec_MenuOk) (fun _ => g_spec_PumpOk) (fun _ => g_spec_l01In) k x = some b := fun x b h => ⟨0, h⟩
/- spec_ShowDevice -/
def con_spec_ShowDevice (f : Nat → (Int × Int × Int × Int × Int × Int × Int × Int × List Int × Int × Int × Bool × Int × Int × ByteArray × (List (Int × (Int × Int))) × Int) → Option (ByteArray)) : Con := ⟨[.agg [.int .i64, .int .i64, .int .i64, .int .i64, .int .i64, .int .i64, .int .i64, .int .i64, .sl (.int .i64), .int .i64, .int .i64, .bool, .int .i64, .int .i64, .str, .sl (.pair (.int .i64) (.pair (.int .i64) (.int .i64))), .int .i64]], 1, [.v false [.str]], f⟩
def spec_ShowDevice_ (spec_Decimal : Nat → Int → Option (ByteArray)) (spec_DeviceOk : Nat → (Int × Int × Int × Int × Int × Int × Int × Int × List Int × Int × Int × Bool × Int × Int × ByteArray × (List (Int × (Int × Int))) × Int) → Option (Bool)) (spec_SenseNames : Nat → Int → Option (ByteArray)) (k : Nat) : (Int × Int × Int × Int × Int × Int × Int × Int × List Int × Int × Int × Bool × Int × Int × ByteArray × (List (Int × (Int × Int))) × Int) → Option (ByteArray)
  | (a0, a1, a2, a3, a4, a5, a6, a7, a8, a9, a10, a11, a12, a13, a14, a15, a16) =>
  (spec_DeviceOk k (a0, (a1, (a2, (a3, (a4, (a5, (a6, (a7, (a8, (a9, (a10, (a11, (a12, (a13, (a14, (a15, a16))))))))))))))))).bind fun v0 =>
  if v0 = true then
   (spec_Decimal k a0).bind fun v1 =>
   if ((ByteArray.size (⟨#[115, 116, 97, 116, 101, 32]⟩ : ByteArray) + ByteArray.size v1 : Nat) : Int) ≤ 9223372036854775807 then
    if ((ByteArray.size ((⟨#[115, 116, 97, 116, 101, 32]⟩ : ByteArray) ++ v1) + ByteArray.size (⟨#[32, 103, 105, 118, 101, 110, 32]⟩ : ByteArray) : Nat) : Int) ≤ 9223372036854775807 then (spec_Decimal k a6).bind fun v2 =>
     if ((ByteArray.size (((⟨#[115, 116, 97, 116, 101, 32]⟩ : ByteArray) ++ v1) ++ (⟨#[32, 103, 105, 118, 101, 110, 32]⟩ : ByteArray)) + ByteArray.size v2 : Nat) : Int) ≤ 9223372036854775807 then
      if ((ByteArray.size ((((⟨#[115, 116, 97, 116, 101, 32]⟩ : ByteArray) ++ v1) ++ (⟨#[32, 103, 105, 118, 101, 110, 32]⟩ : ByteArray)) ++ v2) + ByteArray.size (⟨#[32, 108, 101, 102, 116, 32]⟩ : ByteArray) : Nat) : Int) ≤ 9223372036854775807 then (spec_Decimal k a4).bind fun v3 =>
       if ((ByteArray.size (((((⟨#[115, 116, 97, 116, 101, 32]⟩ : ByteArray) ++ v1) ++ (⟨#[32, 103, 105, 118, 101, 110, 32]⟩ : ByteArray)) ++ v2) ++ (⟨#[32, 108, 101, 102, 116, 32]⟩ : ByteArray)) + ByteArray.size v3 : Nat) : Int) ≤ 9223372036854775807 then
        if ((ByteArray.size ((((((⟨#[115, 116, 97, 116, 101, 32]⟩ : ByteArray) ++ v1) ++ (⟨#[32, 103, 105, 118, 101, 110, 32]⟩ : ByteArray)) ++ v2) ++ (⟨#[32, 108, 101, 102, 116, 32]⟩ : ByteArray)) ++ v3) + ByteArray.size (⟨#[32, 97, 108, 97, 114, 109, 32]⟩ : ByteArray) : Nat) : Int) ≤ 9223372036854775807 then (spec_SenseNames k a9).bind fun v4 =>
         if ((ByteArray.size (((((((⟨#[115, 116, 97, 116, 101, 32]⟩ : ByteArray) ++ v1) ++ (⟨#[32, 103, 105, 118, 101, 110, 32]⟩ : ByteArray)) ++ v2) ++ (⟨#[32, 108, 101, 102, 116, 32]⟩ : ByteArray)) ++ v3) ++ (⟨#[32, 97, 108, 97, 114, 109, 32]⟩ : ByteArray)) + ByteArray.size v4 : Nat) : Int) ≤ 9223372036854775807 then
          if ((ByteArray.size ((((((((⟨#[115, 116, 97, 116, 101, 32]⟩ : ByteArray) ++ v1) ++ (⟨#[32, 103, 105, 118, 101, 110, 32]⟩ : ByteArray)) ++ v2) ++ (⟨#[32, 108, 101, 102, 116, 32]⟩ : ByteArray)) ++ v3) ++ (⟨#[32, 97, 108, 97, 114, 109, 32]⟩ : ByteArray)) ++ v4) + ByteArray.size (⟨#[10]⟩ : ByteArray) : Nat) : Int) ≤ 9223372036854775807 then some (((((((((⟨#[115, 116, 97, 116, 101, 32]⟩ : ByteArray) ++ v1) ++ (⟨#[32, 103, 105, 118, 101, 110, 32]⟩ : ByteArray)) ++ v2) ++ (⟨#[32, 108, 101, 102, 116, 32]⟩ : ByteArray)) ++ v3) ++ (⟨#[32, 97, 108, 97, 114, 109, 32]⟩ : ByteArray)) ++ v4) ++ (⟨#[10]⟩ : ByteArray)) else none
         else
          none else none
       else
        none else none
     else
      none else none
   else
    none
  else
   some (⟨#[]⟩ : ByteArray)
noncomputable def g_spec_ShowDevice : (Int × Int × Int × Int × Int × Int × Int × Int × List Int × Int × Int × Bool × Int × Int × ByteArray × (List (Int × (Int × Int))) × Int) → Option (ByteArray) := spec_ShowDevice_ (fun _ => g_spec_Decimal) (fun _ => g_spec_DeviceOk) (fun _ => g_spec_SenseNames) 0
theorem e_spec_ShowDevice : ∀ x b, g_spec_ShowDevice x = some b → ∃ k, spec_ShowDevice_ (fun _ => g_spec_Decimal) (fun _ => g_spec_DeviceOk) (fun _ => g_spec_SenseNames) k x = some b := fun x b h => ⟨0, h⟩
/- spec_l15Less -/
def con_spec_l15Less (f : Nat → Int × Int → Option (Int)) : Con := ⟨[.c (.int .i64), .c (.int .i64)], 1, [.v false [.int .i64]], f⟩
def spec_l15Less_ (k : Nat) : Int × Int → Option (Int)
  | (a0, a1) =>
  if a0 < a1 then
   some a0
  else
   some a1
noncomputable def g_spec_l15Less : Int × Int → Option (Int) := spec_l15Less_  0
theorem e_spec_l15Less : ∀ x b, g_spec_l15Less x = some b → ∃ k, spec_l15Less_  k x = some b := fun x b h => ⟨0, h⟩
/- spec_RoomOf -/
def con_spec_RoomOf (f : Nat → (List Int × Int) → Option (Int)) : Con := ⟨[.agg [.sl (.int .i64), .int .i64]], 1, [.v false [.int .i64]], f⟩
def spec_RoomOf_ (spec_l16Sum : Nat → List Int → Option (Int)) (k : Nat) : (List Int × Int) → Option (Int)
  | (a0, a1) =>
  (spec_l16Sum k a0).bind fun v0 =>
  some (wrap64 (30 - v0))
noncomputable def g_spec_RoomOf : (List Int × Int) → Option (Int) := spec_RoomOf_ (fun _ => g_spec_l16Sum) 0
theorem e_spec_RoomOf : ∀ x b, g_spec_RoomOf x = some b → ∃ k, spec_RoomOf_ (fun _ => g_spec_l16Sum) k x = some b := fun x b h => ⟨0, h⟩
/- spec_l16Copy -/
def con_spec_l16Copy (f : Nat → (List Int × Int) → Option ((List Int × Int))) : Con := ⟨[.agg [.sl (.int .i64), .int .i64]], 1, [.v true [.own (.int .i64) 3, .int .i64]], f⟩
def spec_l16Copy_ (k : Nat) : (List Int × Int) → Option ((List Int × Int))
  | (a0, a1) =>
  if (((List.length ([] : List Int) + List.length a0 : Nat) : Int) * ((8 : Nat) : Int)) ≤ 140737488355328 then some ((([] : List Int) ++ a0), a1) else none
noncomputable def g_spec_l16Copy : (List Int × Int) → Option ((List Int × Int)) := spec_l16Copy_  0
theorem e_spec_l16Copy : ∀ x b, g_spec_l16Copy x = some b → ∃ k, spec_l16Copy_  k x = some b := fun x b h => ⟨0, h⟩
/- spec_Pass -/
def con_spec_Pass (f : Nat → (List Int × Int) × Int → Option ((List Int × Int))) : Con := ⟨[.agg [.sl (.int .i64), .int .i64], .c (.int .i64)], 1, [.v true [.own (.int .i64) 3, .int .i64]], f⟩
def spec_Pass_ (spec_GuardOk : Nat → (List Int × Int) → Option (Bool)) (spec_RoomOf : Nat → (List Int × Int) → Option (Int)) (spec_l15Less : Nat → Int × Int → Option (Int)) (spec_l16Copy : Nat → (List Int × Int) → Option ((List Int × Int))) (k : Nat) : (List Int × Int) × Int → Option ((List Int × Int))
  | ((a0, a1), a2) =>
  (spec_l16Copy k (a0, a1)).bind fun v0 =>
  (spec_GuardOk k (a0, a1)).bind fun v1 =>
  if v1 = true then
   if a2 < 0 then
    (spec_RoomOf k (a0, a1)).bind fun v2 =>
    (spec_l15Less k (0, v2)).bind fun v3 =>
    if (((List.length [v3] + List.length a0 : Nat) : Int) * ((8 : Nat) : Int)) ≤ 140737488355328 then
     if 9 < ((List.length ([v3] ++ a0) : Nat) : Int) then
      if 0 ≤ 9 then
       if 9 ≤ ((List.length ([v3] ++ a0) : Nat) : Int) then
        if (((List.length ([] : List Int) + List.length (List.take (Int.toNat 9) ([v3] ++ a0)) : Nat) : Int) * ((8 : Nat) : Int)) ≤ 140737488355328 then some ((([] : List Int) ++ (List.take (Int.toNat 9) ([v3] ++ a0))), v0.2) else none
       else
        none
      else
       none
     else
      some (([v3] ++ a0), v0.2)
    else
     none
   else
    (spec_RoomOf k (a0, a1)).bind fun v4 =>
    (spec_l15Less k (a2, v4)).bind fun v5 =>
    if (((List.length [v5] + List.length a0 : Nat) : Int) * ((8 : Nat) : Int)) ≤ 140737488355328 then
     if 9 < ((List.length ([v5] ++ a0) : Nat) : Int) then
      if 0 ≤ 9 then
       if 9 ≤ ((List.length ([v5] ++ a0) : Nat) : Int) then
        if (((List.length ([] : List Int) + List.length (List.take (Int.toNat 9) ([v5] ++ a0)) : Nat) : Int) * ((8 : Nat) : Int)) ≤ 140737488355328 then some ((([] : List Int) ++ (List.take (Int.toNat 9) ([v5] ++ a0))), v0.2) else none
       else
        none
      else
       none
     else
      some (([v5] ++ a0), v0.2)
    else
     none
  else
   some v0
noncomputable def g_spec_Pass : (List Int × Int) × Int → Option ((List Int × Int)) := spec_Pass_ (fun _ => g_spec_GuardOk) (fun _ => g_spec_RoomOf) (fun _ => g_spec_l15Less) (fun _ => g_spec_l16Copy) 0
theorem e_spec_Pass : ∀ x b, g_spec_Pass x = some b → ∃ k, spec_Pass_ (fun _ => g_spec_GuardOk) (fun _ => g_spec_RoomOf) (fun _ => g_spec_l15Less) (fun _ => g_spec_l16Copy) k x = some b := fun x b h => ⟨0, h⟩
/- spec_StepRate -/
def con_spec_StepRate (f : Nat → (Int × Int × Int) → Option ((Int × Int × Int) × Int)) : Con := ⟨[.agg [.int .i64, .int .i64, .int .i64]], 2, [.v true [.int .i64, .int .i64, .int .i64], .v false [.int .i64]], f⟩
def spec_StepRate_ (spec_RateOk : Nat → (Int × Int × Int) → Option (Bool)) (k : Nat) : (Int × Int × Int) → Option ((Int × Int × Int) × Int)
  | (a0, a1, a2) =>
  (spec_RateOk k (a0, (a1, a2))).bind fun v0 =>
  if v0 = true then
   if a1 = 0 then
    none
   else
    if a1 = 0 then
     none
    else
     some ((a0, (a1, (Int.tmod (wrap64 (a2 + a0)) a1))), (wrap64 (Int.tdiv (wrap64 (a2 + a0)) a1)))
  else
   some ((a0, (a1, a2)), 0)
noncomputable def g_spec_StepRate : (Int × Int × Int) → Option ((Int × Int × Int) × Int) := spec_StepRate_ (fun _ => g_spec_RateOk) 0
theorem e_spec_StepRate : ∀ x b, g_spec_StepRate x = some b → ∃ k, spec_StepRate_ (fun _ => g_spec_RateOk) k x = some b := fun x b h => ⟨0, h⟩
/- spec_Wants -/
def con_spec_Wants (f : Nat → (Int × Int × Int × Int × Int × Int × Int × Int) → Option (Int)) : Con := ⟨[.agg [.int .i64, .int .i64, .int .i64, .int .i64, .int .i64, .int .i64, .int .i64, .int .i64]], 1, [.v false [.int .i64]], f⟩
def spec_Wants_ (spec_PumpOk : Nat → (Int × Int × Int × Int × Int × Int × Int × Int) → Option (Bool)) (spec_StepRate : Nat → (Int × Int × Int) → Option ((Int × Int × Int) × Int)) (spec_l15Less : Nat → Int × Int → Option (Int)) (k : Nat) : (Int × Int × Int × Int × Int × Int × Int × Int) → Option (Int)
  | (a0, a1, a2, a3, a4, a5, a6, a7) =>
  (spec_PumpOk k (a0, (a1, (a2, (a3, (a4, (a5, (a6, a7)))))))).bind fun v0 =>
  if v0 = true then
   if a0 = 1 then
    (spec_StepRate k (a1, (a2, a3))).bind fun v1 =>
    if a0 = 1 then
     (spec_l15Less k (v1.2, a4)).bind fun v2 =>
     (spec_l15Less k (a5, 3)).bind fun v3 =>
     some (wrap64 (v2 + v3))
    else
     (spec_l15Less k (a5, 3)).bind fun v4 =>
     some (wrap64 (v1.2 + v4))
   else
    if a0 = 2 then
     (spec_StepRate k (a1, (a2, a3))).bind fun v5 =>
     if a0 = 1 then
      (spec_l15Less k (v5.2, a4)).bind fun v6 =>
      (spec_l15Less k (a5, 3)).bind fun v7 =>
      some (wrap64 (v6 + v7))
     else
      (spec_l15Less k (a5, 3)).bind fun v8 =>
      some (wrap64 (v5.2 + v8))
    else
     some 0
  else
   some 0
noncomputable def g_spec_Wants : (Int × Int × Int × Int × Int × Int × Int × Int) → Option (Int) := spec_Wants_ (fun _ => g_spec_PumpOk) (fun _ => g_spec_StepRate) (fun _ => g_spec_l15Less) 0
theorem e_spec_Wants : ∀ x b, g_spec_Wants x = some b → ∃ k, spec_Wants_ (fun _ => g_spec_PumpOk) (fun _ => g_spec_StepRate) (fun _ => g_spec_l15Less) k x = some b := fun x b h => ⟨0, h⟩
end Go.Sx.T
