/- Functions of the program as functions of Lean, and that the program keeps to them. -/
import Derived.Test.YtogagfoikapbpaaDoorSz3
set_option maxRecDepth 100000
set_option linter.unusedVariables false
set_option linter.unusedSimpArgs false
namespace Go.Proofs
end Go.Proofs
namespace Go.Sx.T
open Go Go.Sx Go.Proofs Go.RowKit
/- strings_Split -/
def con_strings_Split (f : Nat → ByteArray × ByteArray → Option (List ByteArray)) : Con := ⟨[.c .str, .c .str], 1, [.v false [.own .str 9]], f⟩
noncomputable def g_strings_Split : ByteArray × ByteArray → Option (List ByteArray) := fun x => splitF x.1 x.2
theorem e_strings_Split : True := trivial
/- strings_ReplaceAll -/
def con_strings_ReplaceAll (f : Nat → ByteArray × ByteArray × ByteArray → Option (ByteArray)) : Con := ⟨[.c .str, .c .str, .c .str], 1, [.v false [.str]], f⟩
noncomputable def g_strings_ReplaceAll : ByteArray × ByteArray × ByteArray → Option (ByteArray) := fun x => replaceF x.1 x.2.1 x.2.2
theorem e_strings_ReplaceAll : True := trivial
/- impl_ReadDecimal -/
def con_impl_ReadDecimal (f : Nat → ByteArray → Option (Int × Bool)) : Con := ⟨[.c .str], 2, [.v false [.int .i64], .v false [.bool]], f⟩
noncomputable def g_impl_ReadDecimal : ByteArray → Option (Int × Bool) := readDecG
theorem e_impl_ReadDecimal : True := trivial
/- strings_IndexByte -/
def con_strings_IndexByte (f : Nat → ByteArray × Int → Option (Int)) : Con := ⟨[.c .str, .c (.int .u8)], 1, [.v false [.int .i64]], f⟩
noncomputable def g_strings_IndexByte : ByteArray × Int → Option (Int) := fun x => some (indexByteF x.1 x.2)
theorem e_strings_IndexByte : True := trivial
/- strings_Join -/
def con_strings_Join (f : Nat → List ByteArray × ByteArray → Option (ByteArray)) : Con := ⟨[.c (.sl .str), .c .str], 1, [.v false [.str]], f⟩
noncomputable def g_strings_Join : List ByteArray × ByteArray → Option (ByteArray) := fun x => joinF x.1 x.2
theorem e_strings_Join : True := trivial
/- laws_markText -/
def con_laws_markText (f : Nat → Int → Option (ByteArray)) : Con := ⟨[.c (.int .i64)], 1, [.v false [.str]], f⟩
def laws_markText_L4 : Nat → Int × ByteArray × Unit → Option (ByteArray)
  | 0, _ => none
  | k + 1, (b0, b1, ()) =>
    if 0 < b0 then
     if 10 = 0 then
      none
     else
      if ((ByteArray.size (bstr [(wr .u8 (wrap64 (48 + (Int.tmod b0 10))))]) + ByteArray.size b1 : Nat) : Int) ≤ 9223372036854775807 then
       if 10 = 0 then
        none
       else
        laws_markText_L4 k ((wrap64 (Int.tdiv b0 10)), ((bstr [(wr .u8 (wrap64 (48 + (Int.tmod b0 10))))]) ++ b1), ())
      else
       none
    else
     if ((ByteArray.size (⟨#[109]⟩ : ByteArray) + ByteArray.size b1 : Nat) : Int) ≤ 9223372036854775807 then some ((⟨#[109]⟩ : ByteArray) ++ b1) else none
def laws_markText_ (k : Nat) : Int → Option (ByteArray)
  | a0 =>
  if a0 ≤ 0 then
   some (⟨#[109, 48]⟩ : ByteArray)
  else
   laws_markText_L4 k (a0, (⟨#[]⟩ : ByteArray), ())
noncomputable def g_laws_markText : Int → Option (ByteArray) := evG (laws_markText_ )
theorem e_laws_markText : ∀ x b, g_laws_markText x = some b → ∃ k, laws_markText_  k x = some b := evG_e _
/- laws_heldInS -/
def con_laws_heldInS (f : Nat → ((List (Int × (ByteArray × ByteArray)))) × Int → Option (Int)) : Con := ⟨[.c (.sl (.pair (.int .i64) (.pair .str .str))), .c (.int .i64)], 1, [.v false [.int .i64]], f⟩
def laws_heldInS_L2 (laws_markText : Nat → Int → Option (ByteArray)) : Nat → Int × Int × (List (Int × (ByteArray × ByteArray))) × Unit → Option (Int)
  | 0, _ => none
  | k + 1, (b0, b1, b2, ()) =>
    if b1 < ((List.length b2 : Nat) : Int) then
     if 0 ≤ b1 then
      if b1 < ((List.length b2 : Nat) : Int) then
       if (List.getD b2 (Int.toNat b1) (0, ((⟨#[]⟩ : ByteArray), (⟨#[]⟩ : ByteArray)))).1 = b0 then
        if 0 ≤ b1 then
         if b1 < ((List.length b2 : Nat) : Int) then (laws_markText k (wrap64 (b0 + 1))).bind fun v0 =>
          if (List.getD b2 (Int.toNat b1) (0, ((⟨#[]⟩ : ByteArray), (⟨#[]⟩ : ByteArray)))).2.1 = v0 then
           if 0 ≤ b1 then
            if b1 < ((List.length b2 : Nat) : Int) then (laws_markText k (wrap64 ((wrap64 (b0 + 1)) + 1))).bind fun v1 =>
             if (List.getD b2 (Int.toNat b1) (0, ((⟨#[]⟩ : ByteArray), (⟨#[]⟩ : ByteArray)))).2.2 = v1 then
              laws_heldInS_L2 laws_markText k ((wrap64 ((wrap64 ((wrap64 (b0 + 1)) + 1)) + 1)), (wrap64 (b1 + 1)), b2, ())
             else
              some (-1) else none
           else
            none
          else
           some (-1) else none
        else
         none
       else
        some (-1)
      else
       none
     else
      none
    else
     some b0
def laws_heldInS_ (laws_markText : Nat → Int → Option (ByteArray)) (k : Nat) : ((List (Int × (ByteArray × ByteArray)))) × Int → Option (Int)
  | (a0, a1) =>
  laws_heldInS_L2 laws_markText k (a1, 0, a0, ())
noncomputable def g_laws_heldInS : ((List (Int × (ByteArray × ByteArray)))) × Int → Option (Int) := evG (laws_heldInS_ (fun _ => g_laws_markText))
theorem e_laws_heldInS : ∀ x b, g_laws_heldInS x = some b → ∃ k, laws_heldInS_ (fun _ => g_laws_markText) k x = some b := evG_e _
/- laws_eqIn -/
def con_laws_eqIn (f : Nat → (Int × ByteArray × ByteArray) × (Int × ByteArray × ByteArray) → Option (Bool)) : Con := ⟨[.agg [.int .i64, .str, .str], .agg [.int .i64, .str, .str]], 1, [.v false [.bool]], f⟩
def laws_eqIn_ (k : Nat) : (Int × ByteArray × ByteArray) × (Int × ByteArray × ByteArray) → Option (Bool)
  | ((a0, a1, a2), (a3, a4, a5)) =>
  if a0 = a3 then
   if a1 = a4 then
    if a2 = a5 then
     some true
    else
     some false
   else
    some false
  else
   some false
noncomputable def g_laws_eqIn : (Int × ByteArray × ByteArray) × (Int × ByteArray × ByteArray) → Option (Bool) := laws_eqIn_  0
theorem e_laws_eqIn : ∀ x b, g_laws_eqIn x = some b → ∃ k, laws_eqIn_  k x = some b := fun x b h => ⟨0, h⟩
/- laws_eqInS -/
def con_laws_eqInS (f : Nat → ((List (Int × (ByteArray × ByteArray)))) × ((List (Int × (ByteArray × ByteArray)))) → Option (Bool)) : Con := ⟨[.c (.sl (.pair (.int .i64) (.pair .str .str))), .c (.sl (.pair (.int .i64) (.pair .str .str)))], 1, [.v false [.bool]], f⟩
def laws_eqInS_L4 (laws_eqIn : Nat → (Int × ByteArray × ByteArray) × (Int × ByteArray × ByteArray) → Option (Bool)) : Nat → Int × (List (Int × (ByteArray × ByteArray))) × (List (Int × (ByteArray × ByteArray))) × Unit → Option (Bool)
  | 0, _ => none
  | k + 1, (b0, b1, b2, ()) =>
    if b0 < ((List.length b1 : Nat) : Int) then
     if 0 ≤ b0 then
      if b0 < ((List.length b1 : Nat) : Int) then
       if 0 ≤ b0 then
        if b0 < ((List.length b2 : Nat) : Int) then (laws_eqIn k ((List.getD b1 (Int.toNat b0) (0, ((⟨#[]⟩ : ByteArray), (⟨#[]⟩ : ByteArray)))), (List.getD b2 (Int.toNat b0) (0, ((⟨#[]⟩ : ByteArray), (⟨#[]⟩ : ByteArray)))))).bind fun v0 =>
         if v0 = true then
          laws_eqInS_L4 laws_eqIn k ((wrap64 (b0 + 1)), b1, b2, ())
         else
          some false else none
       else
        none
      else
       none
     else
      none
    else
     some true
def laws_eqInS_ (laws_eqIn : Nat → (Int × ByteArray × ByteArray) × (Int × ByteArray × ByteArray) → Option (Bool)) (k : Nat) : ((List (Int × (ByteArray × ByteArray)))) × ((List (Int × (ByteArray × ByteArray)))) → Option (Bool)
  | (a0, a1) =>
  if ((List.length a0 : Nat) : Int) = ((List.length a1 : Nat) : Int) then
   laws_eqInS_L4 laws_eqIn k (0, a0, a1, ())
  else
   some false
noncomputable def g_laws_eqInS : ((List (Int × (ByteArray × ByteArray)))) × ((List (Int × (ByteArray × ByteArray)))) → Option (Bool) := evG (laws_eqInS_ (fun _ => g_laws_eqIn))
theorem e_laws_eqInS : ∀ x b, g_laws_eqInS x = some b → ∃ k, laws_eqInS_ (fun _ => g_laws_eqIn) k x = some b := evG_e _
/- impl_within -/
def con_impl_within (f : Nat → Int × Int × Int → Option (Bool)) : Con := ⟨[.c (.int .i64), .c (.int .i64), .c (.int .i64)], 1, [.v false [.bool]], f⟩
def impl_within_ (k : Nat) : Int × Int × Int → Option (Bool)
  | (a0, a1, a2) =>
  if a1 ≤ a0 then
   some (decide (a0 ≤ a2))
  else
   some false
noncomputable def g_impl_within : Int × Int × Int → Option (Bool) := impl_within_  0
theorem e_impl_within : ∀ x b, g_impl_within x = some b → ∃ k, impl_within_  k x = some b := fun x b h => ⟨0, h⟩
/- impl_SenseOk -/
def con_impl_SenseOk (f : Nat → Int → Option (Bool)) : Con := ⟨[.c (.int .i64)], 1, [.v false [.bool]], f⟩
def impl_SenseOk_ (impl_within : Nat → Int × Int × Int → Option (Bool)) (k : Nat) : Int → Option (Bool)
  | a0 =>
  (impl_within k (a0, (0, 15))).bind fun v0 =>
  some v0
noncomputable def g_impl_SenseOk : Int → Option (Bool) := impl_SenseOk_ (fun _ => g_impl_within) 0
theorem e_impl_SenseOk : ∀ x b, g_impl_SenseOk x = some b → ∃ k, impl_SenseOk_ (fun _ => g_impl_within) k x = some b := fun x b h => ⟨0, h⟩
/- impl_InOk -/
def con_impl_InOk (f : Nat → (Int × ByteArray × ByteArray) → Option (Bool)) : Con := ⟨[.agg [.int .i64, .str, .str]], 1, [.v false [.bool]], f⟩
def impl_InOk_ (impl_SenseOk : Nat → Int → Option (Bool)) (k : Nat) : (Int × ByteArray × ByteArray) → Option (Bool)
  | (a0, a1, a2) =>
  (impl_SenseOk k a0).bind fun v0 =>
  if v0 = true then
   if ((ByteArray.size a1 : Nat) : Int) ≤ 20 then
    some (decide (((ByteArray.size a2 : Nat) : Int) ≤ 40))
   else
    some false
  else
   some false
noncomputable def g_impl_InOk : (Int × ByteArray × ByteArray) → Option (Bool) := impl_InOk_ (fun _ => g_impl_SenseOk) 0
theorem e_impl_InOk : ∀ x b, g_impl_InOk x = some b → ∃ k, impl_InOk_ (fun _ => g_impl_SenseOk) k x = some b := fun x b h => ⟨0, h⟩
/- impl_Unhex -/
def con_impl_Unhex (f : Nat → ByteArray → Option (ByteArray × Bool)) : Con := ⟨[.c (.str)], 2, [.v false [.str], .v false [.bool]], f⟩
def impl_Unhex_L5 (strings_IndexByte : Nat → ByteArray × Int → Option (Int)) : Nat → ByteArray × Int × List Int × Unit → Option (ByteArray × Bool)
  | 0, _ => none
  | k + 1, (b0, b1, b2, ()) =>
    if b1 < ((ByteArray.size b0 : Nat) : Int) then
     if 0 ≤ b1 then
      if b1 < ((ByteArray.size b0 : Nat) : Int) then (strings_IndexByte k ((⟨#[48, 49, 50, 51, 52, 53, 54, 55, 56, 57, 97, 98, 99, 100, 101, 102]⟩ : ByteArray), (byt b0 b1))).bind fun v0 =>
       if 0 ≤ (wrap64 (b1 + 1)) then
        if (wrap64 (b1 + 1)) < ((ByteArray.size b0 : Nat) : Int) then (strings_IndexByte k ((⟨#[48, 49, 50, 51, 52, 53, 54, 55, 56, 57, 97, 98, 99, 100, 101, 102]⟩ : ByteArray), (byt b0 (wrap64 (b1 + 1))))).bind fun v1 =>
         if v0 < 0 then
          some ((⟨#[]⟩ : ByteArray), false)
         else
          if v1 < 0 then
           some ((⟨#[]⟩ : ByteArray), false)
          else
           if (((List.length b2 + List.length [(wr .u8 (wrap64 ((wrap64 (16 * v0)) + v1)))] : Nat) : Int) * ((1 : Nat) : Int)) ≤ 140737488355328 then impl_Unhex_L5 strings_IndexByte k (b0, (wrap64 (b1 + 2)), (b2 ++ [(wr .u8 (wrap64 ((wrap64 (16 * v0)) + v1)))]), ()) else none else none
       else
        none else none
     else
      none
    else
     some ((bstr b2), true)
def impl_Unhex_ (strings_IndexByte : Nat → ByteArray × Int → Option (Int)) (k : Nat) : ByteArray → Option (ByteArray × Bool)
  | a0 =>
  if 2 = 0 then
   none
  else
   if (Int.tmod ((ByteArray.size a0 : Nat) : Int) 2) = 0 then
    if 40000 < ((ByteArray.size a0 : Nat) : Int) then
     some ((⟨#[]⟩ : ByteArray), false)
    else
     impl_Unhex_L5 strings_IndexByte k (a0, 0, ([] : List Int), ())
   else
    some ((⟨#[]⟩ : ByteArray), false)
noncomputable def g_impl_Unhex : ByteArray → Option (ByteArray × Bool) := evG (impl_Unhex_ (fun _ => g_strings_IndexByte))
theorem e_impl_Unhex : ∀ x b, g_impl_Unhex x = some b → ∃ k, impl_Unhex_ (fun _ => g_strings_IndexByte) k x = some b := evG_e _
/- impl_SenseNames -/
def con_impl_SenseNames (f : Nat → Int → Option (ByteArray)) : Con := ⟨[.c (.int .i64)], 1, [.v false [.str]], f⟩
def impl_SenseNames_L7 (impl_SenseOk : Nat → Int → Option (Bool)) (strings_Join : Nat → List ByteArray × ByteArray → Option (ByteArray)) : Nat → Int × Int × Int × List ByteArray × List ByteArray × Unit → Option (ByteArray)
  | 0, _ => none
  | k + 1, (b0, b1, b2, b3, b4, ()) =>
    if b2 < b1 then
     if 0 ≤ b2 then
      if b2 < ((List.length b4 : Nat) : Int) then
       if 0 ≤ b2 then
        if (iand .i64 (Int.fdiv b0 (2 ^ (min (Int.toNat b2) (IntKind.bits .i64)))) 1) = 1 then
         if (((List.length b3 + List.length [(List.getD b4 (Int.toNat b2) (⟨#[]⟩ : ByteArray))] : Nat) : Int) * ((16 : Nat) : Int)) ≤ 140737488355328 then impl_SenseNames_L7 impl_SenseOk strings_Join k (b0, b1, (wrap64 (b2 + 1)), (b3 ++ [(List.getD b4 (Int.toNat b2) (⟨#[]⟩ : ByteArray))]), b4, ()) else none
        else
         impl_SenseNames_L7 impl_SenseOk strings_Join k (b0, b1, (wrap64 (b2 + 1)), b3, b4, ())
       else
        none
      else
       none
     else
      none
    else
     (strings_Join k (b3, (⟨#[44]⟩ : ByteArray))).bind fun v0 =>
     some v0
def impl_SenseNames_ (impl_SenseOk : Nat → Int → Option (Bool)) (strings_Join : Nat → List ByteArray × ByteArray → Option (ByteArray)) (k : Nat) : Int → Option (ByteArray)
  | a0 =>
  (impl_SenseOk k a0).bind fun v0 =>
  if v0 = true then
   if a0 = 0 then
    some (⟨#[110, 111, 110, 101]⟩ : ByteArray)
   else
    impl_SenseNames_L7 impl_SenseOk strings_Join k (a0, ((List.length [(⟨#[98, 108, 111, 99, 107]⟩ : ByteArray), (⟨#[97, 105, 114]⟩ : ByteArray), (⟨#[100, 111, 111, 114]⟩ : ByteArray), (⟨#[112, 111, 119, 101, 114]⟩ : ByteArray)] : Nat) : Int), 0, ([] : List ByteArray), [(⟨#[98, 108, 111, 99, 107]⟩ : ByteArray), (⟨#[97, 105, 114]⟩ : ByteArray), (⟨#[100, 111, 111, 114]⟩ : ByteArray), (⟨#[112, 111, 119, 101, 114]⟩ : ByteArray)], ())
  else
   some (⟨#[]⟩ : ByteArray)
noncomputable def g_impl_SenseNames : Int → Option (ByteArray) := evG (impl_SenseNames_ (fun _ => g_impl_SenseOk) (fun _ => g_strings_Join))
theorem e_impl_SenseNames : ∀ x b, g_impl_SenseNames x = some b → ∃ k, impl_SenseNames_ (fun _ => g_impl_SenseOk) (fun _ => g_strings_Join) k x = some b := evG_e _
/- impl_ReadSense -/
def con_impl_ReadSense (f : Nat → ByteArray → Option (Int × Bool)) : Con := ⟨[.c (.str)], 2, [.v false [.int .i64], .v false [.bool]], f⟩
def impl_ReadSense_L2 (impl_SenseNames : Nat → Int → Option (ByteArray)) : Nat → ByteArray × Int × Unit → Option (Int × Bool)
  | 0, _ => none
  | k + 1, (b0, b1, ()) =>
    if b1 < 16 then
     (impl_SenseNames k b1).bind fun v0 =>
     if v0 = b0 then
      some (b1, true)
     else
      impl_ReadSense_L2 impl_SenseNames k (b0, (wrap64 (b1 + 1)), ())
    else
     some (0, false)
def impl_ReadSense_ (impl_SenseNames : Nat → Int → Option (ByteArray)) (k : Nat) : ByteArray → Option (Int × Bool)
  | a0 =>
  impl_ReadSense_L2 impl_SenseNames k (a0, 0, ())
noncomputable def g_impl_ReadSense : ByteArray → Option (Int × Bool) := evG (impl_ReadSense_ (fun _ => g_impl_SenseNames))
theorem e_impl_ReadSense : ∀ x b, g_impl_ReadSense x = some b → ∃ k, impl_ReadSense_ (fun _ => g_impl_SenseNames) k x = some b := evG_e _
/- impl_readIn -/
def con_impl_readIn (f : Nat → List ByteArray → Option ((Int × ByteArray × ByteArray) × Int × Bool)) : Con := ⟨[.c (.sl .str)], 3, [.v true [.int .i64, .str, .str], .v false [.int .i64], .v false [.bool]], f⟩
def impl_readIn_ (impl_InOk : Nat → (Int × ByteArray × ByteArray) → Option (Bool)) (impl_ReadDecimal : Nat → ByteArray → Option (Int × Bool)) (impl_ReadSense : Nat → ByteArray → Option (Int × Bool)) (impl_Unhex : Nat → ByteArray → Option (ByteArray × Bool)) (impl_within : Nat → Int × Int × Int → Option (Bool)) (strings_ReplaceAll : Nat → ByteArray × ByteArray × ByteArray → Option (ByteArray)) (k : Nat) : List ByteArray → Option ((Int × ByteArray × ByteArray) × Int × Bool)
  | a0 =>
  if ((List.length a0 : Nat) : Int) = 1 then
   if 0 ≤ 0 then
    if 0 < ((List.length a0 : Nat) : Int) then some ((0, ((⟨#[]⟩ : ByteArray), (⟨#[]⟩ : ByteArray))), (1, (decide ((List.getD a0 (Int.toNat 0) (⟨#[]⟩ : ByteArray)) = (⟨#[116, 105, 99, 107]⟩ : ByteArray))))) else none
   else
    none
  else
   if ((List.length a0 : Nat) : Int) = 2 then
    if 0 ≤ 0 then
     if 0 < ((List.length a0 : Nat) : Int) then
      if (List.getD a0 (Int.toNat 0) (⟨#[]⟩ : ByteArray)) = (⟨#[102, 101, 101, 108]⟩ : ByteArray) then
       if 0 ≤ 1 then
        if 1 < ((List.length a0 : Nat) : Int) then (impl_ReadSense k (List.getD a0 (Int.toNat 1) (⟨#[]⟩ : ByteArray))).bind fun v0 =>
         if v0.2 = true then
          (impl_InOk k (v0.1, ((⟨#[]⟩ : ByteArray), (⟨#[]⟩ : ByteArray)))).bind fun v1 =>
          some ((v0.1, ((⟨#[]⟩ : ByteArray), (⟨#[]⟩ : ByteArray))), (1, v1))
         else
          some ((v0.1, ((⟨#[]⟩ : ByteArray), (⟨#[]⟩ : ByteArray))), (1, false)) else none
       else
        none
      else
       if (List.getD a0 (Int.toNat 0) (⟨#[]⟩ : ByteArray)) = (⟨#[107, 101, 121, 115]⟩ : ByteArray) then
        if 0 ≤ 1 then
         if 1 < ((List.length a0 : Nat) : Int) then (strings_ReplaceAll k ((List.getD a0 (Int.toNat 1) (⟨#[]⟩ : ByteArray)), ((⟨#[46]⟩ : ByteArray), (⟨#[10]⟩ : ByteArray)))).bind fun v2 =>
          (impl_InOk k (0, (v2, (⟨#[]⟩ : ByteArray)))).bind fun v3 =>
          some ((0, (v2, (⟨#[]⟩ : ByteArray))), (1, v3)) else none
        else
         none
       else
        if (List.getD a0 (Int.toNat 0) (⟨#[]⟩ : ByteArray)) = (⟨#[108, 105, 110, 107]⟩ : ByteArray) then
         if 0 ≤ 1 then
          if 1 < ((List.length a0 : Nat) : Int) then (impl_Unhex k (List.getD a0 (Int.toNat 1) (⟨#[]⟩ : ByteArray))).bind fun v4 =>
           if v4.2 = true then
            (impl_InOk k (0, ((⟨#[]⟩ : ByteArray), v4.1))).bind fun v5 =>
            some ((0, ((⟨#[]⟩ : ByteArray), v4.1)), (1, v5))
           else
            some ((0, ((⟨#[]⟩ : ByteArray), v4.1)), (1, false)) else none
         else
          none
        else
         if (List.getD a0 (Int.toNat 0) (⟨#[]⟩ : ByteArray)) = (⟨#[109, 97, 110, 121]⟩ : ByteArray) then
          if 0 ≤ 1 then
           if 1 < ((List.length a0 : Nat) : Int) then (impl_ReadDecimal k (List.getD a0 (Int.toNat 1) (⟨#[]⟩ : ByteArray))).bind fun v6 =>
            if v6.2 = true then
             (impl_within k (v6.1, (1, 50))).bind fun v7 =>
             if v7 = true then
              (impl_InOk k (0, ((⟨#[]⟩ : ByteArray), (⟨#[]⟩ : ByteArray)))).bind fun v8 =>
              some ((0, ((⟨#[]⟩ : ByteArray), (⟨#[]⟩ : ByteArray))), (v6.1, v8))
             else
              some ((0, ((⟨#[]⟩ : ByteArray), (⟨#[]⟩ : ByteArray))), (v6.1, false))
            else
             some ((0, ((⟨#[]⟩ : ByteArray), (⟨#[]⟩ : ByteArray))), (v6.1, false)) else none
          else
           none
         else
          some ((0, ((⟨#[]⟩ : ByteArray), (⟨#[]⟩ : ByteArray))), (1, false))
     else
      none
    else
     none
   else
    some ((0, ((⟨#[]⟩ : ByteArray), (⟨#[]⟩ : ByteArray))), (0, false))
noncomputable def g_impl_readIn : List ByteArray → Option ((Int × ByteArray × ByteArray) × Int × Bool) := impl_readIn_ (fun _ => g_impl_InOk) (fun _ => g_impl_ReadDecimal) (fun _ => g_impl_ReadSense) (fun _ => g_impl_Unhex) (fun _ => g_impl_within) (fun _ => g_strings_ReplaceAll) 0
theorem e_impl_readIn : ∀ x b, g_impl_readIn x = some b → ∃ k, impl_readIn_ (fun _ => g_impl_InOk) (fun _ => g_impl_ReadDecimal) (fun _ => g_impl_ReadSense) (fun _ => g_impl_Unhex) (fun _ => g_impl_within) (fun _ => g_strings_ReplaceAll) k x = some b := fun x b h => ⟨0, h⟩
/- impl_PartsOf -/
def con_impl_PartsOf (f : Nat → ByteArray → Option (List ByteArray × Bool)) : Con := ⟨[.c (.str)], 2, [.v false [.own .str 9], .v false [.bool]], f⟩
mutual
def impl_PartsOf_L5 (impl_within : Nat → Int × Int × Int → Option (Bool)) (strings_Split : Nat → ByteArray × ByteArray → Option (List ByteArray)) : Nat → ByteArray × Int × List ByteArray × Unit → Option (List ByteArray × Bool)
  | 0, _ => none
  | k + 1, (b0, b1, b2, ()) =>
    if b1 < ((ByteArray.size b0 : Nat) : Int) then
     if 0 ≤ b1 then
      if b1 < ((ByteArray.size b0 : Nat) : Int) then (impl_within k ((wrap64 (byt b0 b1)), (32, 126))).bind fun v0 =>
       if v0 = true then
        impl_PartsOf_L5 impl_within strings_Split k (b0, (wrap64 (b1 + 1)), b2, ())
       else
        some (([] : List ByteArray), false) else none
     else
      none
    else
     (strings_Split k (b0, (⟨#[32]⟩ : ByteArray))).bind fun v1 =>
     impl_PartsOf_L10 impl_within strings_Split k (((List.length v1 : Nat) : Int), 0, b2, v1, ())
def impl_PartsOf_L10 (impl_within : Nat → Int × Int × Int → Option (Bool)) (strings_Split : Nat → ByteArray × ByteArray → Option (List ByteArray)) : Nat → Int × Int × List ByteArray × List ByteArray × Unit → Option (List ByteArray × Bool)
  | 0, _ => none
  | k + 1, (b0, b1, b2, b3, ()) =>
    if b1 < b0 then
     if 0 ≤ b1 then
      if b1 < ((List.length b3 : Nat) : Int) then
       if (List.getD b3 (Int.toNat b1) (⟨#[]⟩ : ByteArray)) = (⟨#[]⟩ : ByteArray) then
        impl_PartsOf_L10 impl_within strings_Split k (b0, (wrap64 (b1 + 1)), b2, b3, ())
       else
        if (((List.length b2 + List.length [(List.getD b3 (Int.toNat b1) (⟨#[]⟩ : ByteArray))] : Nat) : Int) * ((16 : Nat) : Int)) ≤ 140737488355328 then impl_PartsOf_L10 impl_within strings_Split k (b0, (wrap64 (b1 + 1)), (b2 ++ [(List.getD b3 (Int.toNat b1) (⟨#[]⟩ : ByteArray))]), b3, ()) else none
      else
       none
     else
      none
    else
     if 10 < ((List.length b2 : Nat) : Int) then
      some (([] : List ByteArray), false)
     else
      some (b2, true)
end
def impl_PartsOf_ (impl_within : Nat → Int × Int × Int → Option (Bool)) (strings_Split : Nat → ByteArray × ByteArray → Option (List ByteArray)) (k : Nat) : ByteArray → Option (List ByteArray × Bool)
  | a0 =>
  if 600 < ((ByteArray.size a0 : Nat) : Int) then
   some (([] : List ByteArray), false)
  else
   impl_PartsOf_L5 impl_within strings_Split k (a0, 0, ([] : List ByteArray), ())
noncomputable def g_impl_PartsOf : ByteArray → Option (List ByteArray × Bool) := evG (impl_PartsOf_ (fun _ => g_impl_within) (fun _ => g_strings_Split))
theorem e_impl_PartsOf : ∀ x b, g_impl_PartsOf x = some b → ∃ k, impl_PartsOf_ (fun _ => g_impl_within) (fun _ => g_strings_Split) k x = some b := evG_e _
/- impl_linesOf -/
def con_impl_linesOf (f : Nat → ByteArray → Option (List ByteArray)) : Con := ⟨[.c (.str)], 1, [.v false [.own .str 9]], f⟩
def impl_linesOf_ (strings_Split : Nat → ByteArray × ByteArray → Option (List ByteArray)) (k : Nat) : ByteArray → Option (List ByteArray)
  | a0 =>
  (strings_Split k (a0, (⟨#[10]⟩ : ByteArray))).bind fun v0 =>
  if 0 ≤ (wrap64 (((List.length v0 : Nat) : Int) - 1)) then
   if (wrap64 (((List.length v0 : Nat) : Int) - 1)) < ((List.length v0 : Nat) : Int) then
    if (List.getD v0 (Int.toNat (wrap64 (((List.length v0 : Nat) : Int) - 1))) (⟨#[]⟩ : ByteArray)) = (⟨#[]⟩ : ByteArray) then
     if 0 ≤ (wrap64 (((List.length v0 : Nat) : Int) - 1)) then
      if (wrap64 (((List.length v0 : Nat) : Int) - 1)) ≤ ((List.length v0 : Nat) : Int) then some (List.take (Int.toNat (wrap64 (((List.length v0 : Nat) : Int) - 1))) v0) else none
     else
      none
    else
     some v0
   else
    none
  else
   none
noncomputable def g_impl_linesOf : ByteArray → Option (List ByteArray) := impl_linesOf_ (fun _ => g_strings_Split) 0
theorem e_impl_linesOf : ∀ x b, g_impl_linesOf x = some b → ∃ k, impl_linesOf_ (fun _ => g_strings_Split) k x = some b := fun x b h => ⟨0, h⟩
/- impl_ReadScript -/
def con_impl_ReadScript (f : Nat → ByteArray → Option (((List (Int × (ByteArray × ByteArray)))) × Int)) : Con := ⟨[.c (.str)], 2, [.v false [.own (.pair (.int .i64) (.pair .str .str)) 33], .v false [.int .i64]], f⟩
mutual
def impl_ReadScript_L6 (impl_PartsOf : Nat → ByteArray → Option (List ByteArray × Bool)) (impl_linesOf : Nat → ByteArray → Option (List ByteArray)) (impl_readIn : Nat → List ByteArray → Option ((Int × ByteArray × ByteArray) × Int × Bool)) : Nat → Int × Int × (List (Int × (ByteArray × ByteArray))) × List ByteArray × Unit → Option (((List (Int × (ByteArray × ByteArray)))) × Int)
  | 0, _ => none
  | k + 1, (b0, b1, b2, b3, ()) =>
    if b1 < b0 then
     if 0 ≤ b1 then
      if b1 < ((List.length b3 : Nat) : Int) then (impl_PartsOf k (List.getD b3 (Int.toNat b1) (⟨#[]⟩ : ByteArray))).bind fun v0 =>
       if v0.2 = true then
        if ((List.length v0.1 : Nat) : Int) = 0 then
         impl_ReadScript_L6 impl_PartsOf impl_linesOf impl_readIn k (b0, (wrap64 (b1 + 1)), b2, b3, ())
        else
         if 0 ≤ 0 then
          if 0 < ((List.length v0.1 : Nat) : Int) then
           if 0 ≤ 0 then
            if 0 < ((ByteArray.size (List.getD v0.1 (Int.toNat 0) (⟨#[]⟩ : ByteArray)) : Nat) : Int) then
             if (byt (List.getD v0.1 (Int.toNat 0) (⟨#[]⟩ : ByteArray)) 0) = 35 then
              impl_ReadScript_L6 impl_PartsOf impl_linesOf impl_readIn k (b0, (wrap64 (b1 + 1)), b2, b3, ())
             else
              if v0.2 = true then
               (impl_readIn k v0.1).bind fun v1 =>
               if v1.2.2 = true then
                if 150 < (wrap64 (((List.length b2 : Nat) : Int) + v1.2.1)) then
                 some (([] : List (Int × (ByteArray × ByteArray))), (wrap64 (b1 + 1)))
                else
                 impl_ReadScript_L16 impl_PartsOf impl_linesOf impl_readIn k (b0, b1, v1.2.1, 0, b2, v1.1.1, v1.1.2.1, v1.1.2.2, b3, ())
               else
                some (([] : List (Int × (ByteArray × ByteArray))), (wrap64 (b1 + 1)))
              else
               some (([] : List (Int × (ByteArray × ByteArray))), (wrap64 (b1 + 1)))
            else
             none
           else
            none
          else
           none
         else
          none
       else
        if v0.2 = true then
         (impl_readIn k v0.1).bind fun v2 =>
         if v2.2.2 = true then
          if 150 < (wrap64 (((List.length b2 : Nat) : Int) + v2.2.1)) then
           some (([] : List (Int × (ByteArray × ByteArray))), (wrap64 (b1 + 1)))
          else
           impl_ReadScript_L16 impl_PartsOf impl_linesOf impl_readIn k (b0, b1, v2.2.1, 0, b2, v2.1.1, v2.1.2.1, v2.1.2.2, b3, ())
         else
          some (([] : List (Int × (ByteArray × ByteArray))), (wrap64 (b1 + 1)))
        else
         some (([] : List (Int × (ByteArray × ByteArray))), (wrap64 (b1 + 1))) else none
     else
      none
    else
     some (b2, 0)
def impl_ReadScript_L16 (impl_PartsOf : Nat → ByteArray → Option (List ByteArray × Bool)) (impl_linesOf : Nat → ByteArray → Option (List ByteArray)) (impl_readIn : Nat → List ByteArray → Option ((Int × ByteArray × ByteArray) × Int × Bool)) : Nat → Int × Int × Int × Int × (List (Int × (ByteArray × ByteArray))) × Int × ByteArray × ByteArray × List ByteArray × Unit → Option (((List (Int × (ByteArray × ByteArray)))) × Int)
  | 0, _ => none
  | k + 1, (b0, b1, b2, b3, b4, b5, b6, b7, b8, ()) =>
    if b3 < b2 then
     if (((List.length b4 + List.length [(b5, (b6, b7))] : Nat) : Int) * ((40 : Nat) : Int)) ≤ 140737488355328 then impl_ReadScript_L16 impl_PartsOf impl_linesOf impl_readIn k (b0, b1, b2, (wrap64 (b3 + 1)), (b4 ++ [(b5, (b6, b7))]), b5, b6, b7, b8, ()) else none
    else
     impl_ReadScript_L6 impl_PartsOf impl_linesOf impl_readIn k (b0, (wrap64 (b1 + 1)), b4, b8, ())
end
def impl_ReadScript_ (impl_PartsOf : Nat → ByteArray → Option (List ByteArray × Bool)) (impl_linesOf : Nat → ByteArray → Option (List ByteArray)) (impl_readIn : Nat → List ByteArray → Option ((Int × ByteArray × ByteArray) × Int × Bool)) (k : Nat) : ByteArray → Option (((List (Int × (ByteArray × ByteArray)))) × Int)
  | a0 =>
  (impl_linesOf k a0).bind fun v0 =>
  if 3000 < ((ByteArray.size a0 : Nat) : Int) then
   some (([] : List (Int × (ByteArray × ByteArray))), (-1))
  else
   if 120 < ((List.length v0 : Nat) : Int) then
    some (([] : List (Int × (ByteArray × ByteArray))), (-1))
   else
    impl_ReadScript_L6 impl_PartsOf impl_linesOf impl_readIn k (((List.length v0 : Nat) : Int), 0, ([] : List (Int × (ByteArray × ByteArray))), v0, ())
noncomputable def g_impl_ReadScript : ByteArray → Option (((List (Int × (ByteArray × ByteArray)))) × Int) := evG (impl_ReadScript_ (fun _ => g_impl_PartsOf) (fun _ => g_impl_linesOf) (fun _ => g_impl_readIn))
theorem e_impl_ReadScript : ∀ x b, g_impl_ReadScript x = some b → ∃ k, impl_ReadScript_ (fun _ => g_impl_PartsOf) (fun _ => g_impl_linesOf) (fun _ => g_impl_readIn) k x = some b := evG_e _
/- laws_markInS -/
def con_laws_markInS (f : Nat → ((List (Int × (ByteArray × ByteArray)))) × Int → Option (Int × (List (Int × (ByteArray × ByteArray))))) : Con := ⟨[.w false [.row (.pair (.int .i64) (.pair .str .str)) 33], .c (.int .i64)], 1, [.v false [.int .i64], .row (.pair (.int .i64) (.pair .str .str)) 33], f⟩
def laws_markInS_L2 (laws_markText : Nat → Int → Option (ByteArray)) : Nat → Int × Int × (List (Int × (ByteArray × ByteArray))) × Unit → Option (Int × (List (Int × (ByteArray × ByteArray))))
  | 0, _ => none
  | k + 1, (b0, b1, b2, ()) =>
    if b1 < ((List.length b2 : Nat) : Int) then
     if 0 ≤ b1 then
      if b1 < ((List.length b2 : Nat) : Int) then (laws_markText k (wrap64 (b0 + 1))).bind fun v0 =>
       if 0 ≤ b1 then
        if b1 < ((List.length (List.set b2 (Int.toNat b1) (b0, (List.getD b2 (Int.toNat b1) (0, ((⟨#[]⟩ : ByteArray), (⟨#[]⟩ : ByteArray)))).2)) : Nat) : Int) then (laws_markText k (wrap64 ((wrap64 (b0 + 1)) + 1))).bind fun v1 =>
         if 0 ≤ b1 then
          if b1 < ((List.length (List.set (List.set b2 (Int.toNat b1) (b0, (List.getD b2 (Int.toNat b1) (0, ((⟨#[]⟩ : ByteArray), (⟨#[]⟩ : ByteArray)))).2)) (Int.toNat b1) ((List.getD (List.set b2 (Int.toNat b1) (b0, (List.getD b2 (Int.toNat b1) (0, ((⟨#[]⟩ : ByteArray), (⟨#[]⟩ : ByteArray)))).2)) (Int.toNat b1) (0, ((⟨#[]⟩ : ByteArray), (⟨#[]⟩ : ByteArray)))).1, (v0, (List.getD (List.set b2 (Int.toNat b1) (b0, (List.getD b2 (Int.toNat b1) (0, ((⟨#[]⟩ : ByteArray), (⟨#[]⟩ : ByteArray)))).2)) (Int.toNat b1) (0, ((⟨#[]⟩ : ByteArray), (⟨#[]⟩ : ByteArray)))).2.2))) : Nat) : Int) then laws_markInS_L2 laws_markText k ((wrap64 ((wrap64 ((wrap64 (b0 + 1)) + 1)) + 1)), (wrap64 (b1 + 1)), (List.set (List.set (List.set b2 (Int.toNat b1) (b0, (List.getD b2 (Int.toNat b1) (0, ((⟨#[]⟩ : ByteArray), (⟨#[]⟩ : ByteArray)))).2)) (Int.toNat b1) ((List.getD (List.set b2 (Int.toNat b1) (b0, (List.getD b2 (Int.toNat b1) (0, ((⟨#[]⟩ : ByteArray), (⟨#[]⟩ : ByteArray)))).2)) (Int.toNat b1) (0, ((⟨#[]⟩ : ByteArray), (⟨#[]⟩ : ByteArray)))).1, (v0, (List.getD (List.set b2 (Int.toNat b1) (b0, (List.getD b2 (Int.toNat b1) (0, ((⟨#[]⟩ : ByteArray), (⟨#[]⟩ : ByteArray)))).2)) (Int.toNat b1) (0, ((⟨#[]⟩ : ByteArray), (⟨#[]⟩ : ByteArray)))).2.2))) (Int.toNat b1) ((List.getD (List.set (List.set b2 (Int.toNat b1) (b0, (List.getD b2 (Int.toNat b1) (0, ((⟨#[]⟩ : ByteArray), (⟨#[]⟩ : ByteArray)))).2)) (Int.toNat b1) ((List.getD (List.set b2 (Int.toNat b1) (b0, (List.getD b2 (Int.toNat b1) (0, ((⟨#[]⟩ : ByteArray), (⟨#[]⟩ : ByteArray)))).2)) (Int.toNat b1) (0, ((⟨#[]⟩ : ByteArray), (⟨#[]⟩ : ByteArray)))).1, (v0, (List.getD (List.set b2 (Int.toNat b1) (b0, (List.getD b2 (Int.toNat b1) (0, ((⟨#[]⟩ : ByteArray), (⟨#[]⟩ : ByteArray)))).2)) (Int.toNat b1) (0, ((⟨#[]⟩ : ByteArray), (⟨#[]⟩ : ByteArray)))).2.2))) (Int.toNat b1) (0, ((⟨#[]⟩ : ByteArray), (⟨#[]⟩ : ByteArray)))).1, ((List.getD (List.set (List.set b2 (Int.toNat b1) (b0, (List.getD b2 (Int.toNat b1) (0, ((⟨#[]⟩ : ByteArray), (⟨#[]⟩ : ByteArray)))).2)) (Int.toNat b1) ((List.getD (List.set b2 (Int.toNat b1) (b0, (List.getD b2 (Int.toNat b1) (0, ((⟨#[]⟩ : ByteArray), (⟨#[]⟩ : ByteArray)))).2)) (Int.toNat b1) (0, ((⟨#[]⟩ : ByteArray), (⟨#[]⟩ : ByteArray)))).1, (v0, (List.getD (List.set b2 (Int.toNat b1) (b0, (List.getD b2 (Int.toNat b1) (0, ((⟨#[]⟩ : ByteArray), (⟨#[]⟩ : ByteArray)))).2)) (Int.toNat b1) (0, ((⟨#[]⟩ : ByteArray), (⟨#[]⟩ : ByteArray)))).2.2))) (Int.toNat b1) (0, ((⟨#[]⟩ : ByteArray), (⟨#[]⟩ : ByteArray)))).2.1, v1))), ()) else none
         else
          none else none
       else
        none else none
     else
      none
    else
     some (b0, b2)
def laws_markInS_ (laws_markText : Nat → Int → Option (ByteArray)) (k : Nat) : ((List (Int × (ByteArray × ByteArray)))) × Int → Option (Int × (List (Int × (ByteArray × ByteArray))))
  | (a0, a1) =>
  laws_markInS_L2 laws_markText k (a1, 0, a0, ())
noncomputable def g_laws_markInS : ((List (Int × (ByteArray × ByteArray)))) × Int → Option (Int × (List (Int × (ByteArray × ByteArray)))) := evG (laws_markInS_ (fun _ => g_laws_markText))
theorem e_laws_markInS : ∀ x b, g_laws_markInS x = some b → ∃ k, laws_markInS_ (fun _ => g_laws_markText) k x = some b := evG_e _
/- spec_l01In -/
def con_spec_l01In (f : Nat → Int × Int × Int → Option (Bool)) : Con := ⟨[.c (.int .i64), .c (.int .i64), .c (.int .i64)], 1, [.v false [.bool]], f⟩
def spec_l01In_ (k : Nat) : Int × Int × Int → Option (Bool)
  | (a0, a1, a2) =>
  if a1 ≤ a0 then
   some (decide (a0 ≤ a2))
  else
   some false
noncomputable def g_spec_l01In : Int × Int × Int → Option (Bool) := spec_l01In_  0
theorem e_spec_l01In : ∀ x b, g_spec_l01In x = some b → ∃ k, spec_l01In_  k x = some b := fun x b h => ⟨0, h⟩
/- spec_SenseOk -/
def con_spec_SenseOk (f : Nat → Int → Option (Bool)) : Con := ⟨[.c (.int .i64)], 1, [.v false [.bool]], f⟩
def spec_SenseOk_ (spec_l01In : Nat → Int × Int × Int → Option (Bool)) (k : Nat) : Int → Option (Bool)
  | a0 =>
  (spec_l01In k (a0, (0, 15))).bind fun v0 =>
  some v0
noncomputable def g_spec_SenseOk : Int → Option (Bool) := spec_SenseOk_ (fun _ => g_spec_l01In) 0
theorem e_spec_SenseOk : ∀ x b, g_spec_SenseOk x = some b → ∃ k, spec_SenseOk_ (fun _ => g_spec_l01In) k x = some b := fun x b h => ⟨0, h⟩
/- spec_InOk -/
def con_spec_InOk (f : Nat → (Int × ByteArray × ByteArray) → Option (Bool)) : Con := ⟨[.agg [.int .i64, .str, .str]], 1, [.v false [.bool]], f⟩
def spec_InOk_ (spec_SenseOk : Nat → Int → Option (Bool)) (k : Nat) : (Int × ByteArray × ByteArray) → Option (Bool)
  | (a0, a1, a2) =>
  (spec_SenseOk k a0).bind fun v0 =>
  if v0 = true then
   if ((ByteArray.size a1 : Nat) : Int) ≤ 20 then
    some (decide (((ByteArray.size a2 : Nat) : Int) ≤ 40))
   else
    some false
  else
   some false
noncomputable def g_spec_InOk : (Int × ByteArray × ByteArray) → Option (Bool) := spec_InOk_ (fun _ => g_spec_SenseOk) 0
theorem e_spec_InOk : ∀ x b, g_spec_InOk x = some b → ∃ k, spec_InOk_ (fun _ => g_spec_SenseOk) k x = some b := fun x b h => ⟨0, h⟩
/- spec_l01Figure -/
def con_spec_l01Figure (f : Nat → Int → Option (Int)) : Con := ⟨[.c (.int .i64)], 1, [.v false [.int .u8]], f⟩
def spec_l01Figure_ (k : Nat) : Int → Option (Int)
  | a0 =>
  if a0 < 10 then
   some (wr .u8 (wrap64 (48 + a0)))
  else
   some (wr .u8 (wrap64 ((wrap64 (97 + a0)) - 10)))
noncomputable def g_spec_l01Figure : Int → Option (Int) := spec_l01Figure_  0
theorem e_spec_l01Figure : ∀ x b, g_spec_l01Figure x = some b → ∃ k, spec_l01Figure_  k x = some b := fun x b h => ⟨0, h⟩
/- spec_Decimal -/
def con_spec_Decimal (f : Nat → Int → Option (ByteArray)) : Con := ⟨[.c (.int .i64)], 1, [.v false [.str]], f⟩
def spec_Decimal_L5 (spec_l01Figure : Nat → Int → Option (Int)) : Nat → Int × Bool × ByteArray × Unit → Option (ByteArray)
  | 0, _ => none
  | k + 1, (b0, b1, b2, ()) =>
    if b0 = 0 then
     if b1 = true then
      if ((ByteArray.size (⟨#[45]⟩ : ByteArray) + ByteArray.size b2 : Nat) : Int) ≤ 9223372036854775807 then some ((⟨#[45]⟩ : ByteArray) ++ b2) else none
     else
      some b2
    else
     if 10 = 0 then
      none
     else
      if (Int.tmod b0 10) < 0 then
       (spec_l01Figure k (wrap64 (0 - (Int.tmod b0 10)))).bind fun v0 =>
       if ((ByteArray.size (bstr [v0]) + ByteArray.size b2 : Nat) : Int) ≤ 9223372036854775807 then
        if 10 = 0 then
         none
        else
         spec_Decimal_L5 spec_l01Figure k ((wrap64 (Int.tdiv b0 10)), b1, ((bstr [v0]) ++ b2), ())
       else
        none
      else
       (spec_l01Figure k (Int.tmod b0 10)).bind fun v1 =>
       if ((ByteArray.size (bstr [v1]) + ByteArray.size b2 : Nat) : Int) ≤ 9223372036854775807 then
        if 10 = 0 then
         none
        else
         spec_Decimal_L5 spec_l01Figure k ((wrap64 (Int.tdiv b0 10)), b1, ((bstr [v1]) ++ b2), ())
       else
        none
def spec_Decimal_ (spec_l01Figure : Nat → Int → Option (Int)) (k : Nat) : Int → Option (ByteArray)
  | a0 =>
  if a0 = 0 then
   some (⟨#[48]⟩ : ByteArray)
  else
   spec_Decimal_L5 spec_l01Figure k (a0, (decide (a0 < 0)), (⟨#[]⟩ : ByteArray), ())
noncomputable def g_spec_Decimal : Int → Option (ByteArray) := evG (spec_Decimal_ (fun _ => g_spec_l01Figure))
theorem e_spec_Decimal : ∀ x b, g_spec_Decimal x = some b → ∃ k, spec_Decimal_ (fun _ => g_spec_l01Figure) k x = some b := evG_e _
/- spec_ReadDecimal -/
def con_spec_ReadDecimal (f : Nat → ByteArray → Option (Int × Bool)) : Con := ⟨[.c (.str)], 2, [.v false [.int .i64], .v false [.bool]], f⟩
def spec_ReadDecimal_L5 (spec_Decimal : Nat → Int → Option (ByteArray)) : Nat → ByteArray × Int × Int × Unit → Option (Int × Bool)
  | 0, _ => none
  | k + 1, (b0, b1, b2, ()) =>
    if b2 < ((ByteArray.size b0 : Nat) : Int) then
     if 0 ≤ b2 then
      if b2 < ((ByteArray.size b0 : Nat) : Int) then
       if (byt b0 b2) < 48 then
        some (0, false)
       else
        if 0 ≤ b2 then
         if b2 < ((ByteArray.size b0 : Nat) : Int) then
          if 57 < (byt b0 b2) then
           some (0, false)
          else
           if 0 ≤ b2 then
            if b2 < ((ByteArray.size b0 : Nat) : Int) then spec_ReadDecimal_L5 spec_Decimal k (b0, (wrap64 ((wrap64 ((wrap64 (10 * b1)) + (wrap64 (byt b0 b2)))) - 48)), (wrap64 (b2 + 1)), ()) else none
           else
            none
         else
          none
        else
         none
      else
       none
     else
      none
    else
     if 1000000000 < b1 then
      some (0, false)
     else
      (spec_Decimal k b1).bind fun v0 =>
      if v0 = b0 then
       some (b1, true)
      else
       some (0, false)
def spec_ReadDecimal_ (spec_Decimal : Nat → Int → Option (ByteArray)) (k : Nat) : ByteArray → Option (Int × Bool)
  | a0 =>
  if 10 < ((ByteArray.size a0 : Nat) : Int) then
   some (0, false)
  else
   spec_ReadDecimal_L5 spec_Decimal k (a0, 0, 0, ())
noncomputable def g_spec_ReadDecimal : ByteArray → Option (Int × Bool) := evG (spec_ReadDecimal_ (fun _ => g_spec_Decimal))
theorem e_spec_ReadDecimal : ∀ x b, g_spec_ReadDecimal x = some b → ∃ k, spec_ReadDecimal_ (fun _ => g_spec_Decimal) k x = some b := evG_e _
/- spec_l01Value -/
def con_spec_l01Value (f : Nat → Int → Option (Int)) : Con := ⟨[.c (.int .u8)], 1, [.v false [.int .i64]], f⟩
def spec_l01Value_ (k : Nat) : Int → Option (Int)
  | a0 =>
  if 48 ≤ a0 then
   if a0 ≤ 57 then
    some (wrap64 ((wrap64 a0) - 48))
   else
    if 97 ≤ a0 then
     if a0 ≤ 102 then
      some (wrap64 ((wrap64 ((wrap64 a0) - 97)) + 10))
     else
      some (-1)
    else
     some (-1)
  else
   if 97 ≤ a0 then
    if a0 ≤ 102 then
     some (wrap64 ((wrap64 ((wrap64 a0) - 97)) + 10))
    else
     some (-1)
   else
    some (-1)
noncomputable def g_spec_l01Value : Int → Option (Int) := spec_l01Value_  0
theorem e_spec_l01Value : ∀ x b, g_spec_l01Value x = some b → ∃ k, spec_l01Value_  k x = some b := fun x b h => ⟨0, h⟩
/- spec_Unhex -/
def con_spec_Unhex (f : Nat → ByteArray → Option (ByteArray × Bool)) : Con := ⟨[.c (.str)], 2, [.v false [.str], .v false [.bool]], f⟩
def spec_Unhex_L5 (spec_l01Value : Nat → Int → Option (Int)) : Nat → ByteArray × Int × List Int × Unit → Option (ByteArray × Bool)
  | 0, _ => none
  | k + 1, (b0, b1, b2, ()) =>
    if b1 < ((ByteArray.size b0 : Nat) : Int) then
     if 0 ≤ b1 then
      if b1 < ((ByteArray.size b0 : Nat) : Int) then (spec_l01Value k (byt b0 b1)).bind fun v0 =>
       if 0 ≤ (wrap64 (b1 + 1)) then
        if (wrap64 (b1 + 1)) < ((ByteArray.size b0 : Nat) : Int) then (spec_l01Value k (byt b0 (wrap64 (b1 + 1)))).bind fun v1 =>
         if v0 < 0 then
          some ((⟨#[]⟩ : ByteArray), false)
         else
          if v1 < 0 then
           some ((⟨#[]⟩ : ByteArray), false)
          else
           if (((List.length b2 + List.length [(wr .u8 (wrap64 ((wrap64 (16 * v0)) + v1)))] : Nat) : Int) * ((1 : Nat) : Int)) ≤ 140737488355328 then spec_Unhex_L5 spec_l01Value k (b0, (wrap64 (b1 + 2)), (b2 ++ [(wr .u8 (wrap64 ((wrap64 (16 * v0)) + v1)))]), ()) else none else none
       else
        none else none
     else
      none
    else
     some ((bstr b2), true)
def spec_Unhex_ (spec_l01Value : Nat → Int → Option (Int)) (k : Nat) : ByteArray → Option (ByteArray × Bool)
  | a0 =>
  if 40000 < ((ByteArray.size a0 : Nat) : Int) then
   some ((⟨#[]⟩ : ByteArray), false)
  else
   if 2 = 0 then
    none
   else
    if (Int.tmod ((ByteArray.size a0 : Nat) : Int) 2) = 0 then
     spec_Unhex_L5 spec_l01Value k (a0, 0, ([] : List Int), ())
    else
     some ((⟨#[]⟩ : ByteArray), false)
noncomputable def g_spec_Unhex : ByteArray → Option (ByteArray × Bool) := evG (spec_Unhex_ (fun _ => g_spec_l01Value))
theorem e_spec_Unhex : ∀ x b, g_spec_Unhex x = some b → ∃ k, spec_Unhex_ (fun _ => g_spec_l01Value) k x = some b := evG_e _
/- spec_Has -/
def con_spec_Has (f : Nat → Int × Int → Option (Bool)) : Con := ⟨[.c (.int .i64), .c (.int .i64)], 1, [.v false [.bool]], f⟩
def spec_Has_ (spec_SenseOk : Nat → Int → Option (Bool)) (k : Nat) : Int × Int → Option (Bool)
  | (a0, a1) =>
  (spec_SenseOk k a0).bind fun v0 =>
  if v0 = true then
   if a1 = 1 then
    if a1 = 0 then
     none
    else
     if 2 = 0 then
      none
     else
      some (decide ((Int.tmod (wrap64 (Int.tdiv a0 a1)) 2) = 1))
   else
    if a1 = 2 then
     if a1 = 0 then
      none
     else
      if 2 = 0 then
       none
      else
       some (decide ((Int.tmod (wrap64 (Int.tdiv a0 a1)) 2) = 1))
    else
     if a1 = 4 then
      if a1 = 0 then
       none
      else
       if 2 = 0 then
        none
       else
        some (decide ((Int.tmod (wrap64 (Int.tdiv a0 a1)) 2) = 1))
     else
      if a1 = 8 then
       if a1 = 0 then
        none
       else
        if 2 = 0 then
         none
        else
         some (decide ((Int.tmod (wrap64 (Int.tdiv a0 a1)) 2) = 1))
      else
       some false
  else
   some false
noncomputable def g_spec_Has : Int × Int → Option (Bool) := spec_Has_ (fun _ => g_spec_SenseOk) 0
theorem e_spec_Has : ∀ x b, g_spec_Has x = some b → ∃ k, spec_Has_ (fun _ => g_spec_SenseOk) k x = some b := fun x b h => ⟨0, h⟩
/- spec_SenseNames -/
def con_spec_SenseNames (f : Nat → Int → Option (ByteArray)) : Con := ⟨[.c (.int .i64)], 1, [.v false [.str]], f⟩
def spec_SenseNames_L7 (spec_Has : Nat → Int × Int → Option (Bool)) (spec_SenseOk : Nat → Int → Option (Bool)) : Nat → Int × ByteArray × Int × List ByteArray × List Int × Unit → Option (ByteArray)
  | 0, _ => none
  | k + 1, (b0, b1, b2, b3, b4, ()) =>
    if b2 < 4 then
     if 0 ≤ b2 then
      if b2 < ((List.length b4 : Nat) : Int) then (spec_Has k (b0, (List.getD b4 (Int.toNat b2) 0))).bind fun v0 =>
       if v0 = true then
        if b1 = (⟨#[]⟩ : ByteArray) then
         if 0 ≤ b2 then
          if b2 < ((List.length b3 : Nat) : Int) then
           if ((ByteArray.size b1 + ByteArray.size (List.getD b3 (Int.toNat b2) (⟨#[]⟩ : ByteArray)) : Nat) : Int) ≤ 9223372036854775807 then spec_SenseNames_L7 spec_Has spec_SenseOk k (b0, (b1 ++ (List.getD b3 (Int.toNat b2) (⟨#[]⟩ : ByteArray))), (wrap64 (b2 + 1)), b3, b4, ()) else none
          else
           none
         else
          none
        else
         if ((ByteArray.size b1 + ByteArray.size (⟨#[44]⟩ : ByteArray) : Nat) : Int) ≤ 9223372036854775807 then
          if 0 ≤ b2 then
           if b2 < ((List.length b3 : Nat) : Int) then
            if ((ByteArray.size (b1 ++ (⟨#[44]⟩ : ByteArray)) + ByteArray.size (List.getD b3 (Int.toNat b2) (⟨#[]⟩ : ByteArray)) : Nat) : Int) ≤ 9223372036854775807 then spec_SenseNames_L7 spec_Has spec_SenseOk k (b0, ((b1 ++ (⟨#[44]⟩ : ByteArray)) ++ (List.getD b3 (Int.toNat b2) (⟨#[]⟩ : ByteArray))), (wrap64 (b2 + 1)), b3, b4, ()) else none
           else
            none
          else
           none
         else
          none
       else
        spec_SenseNames_L7 spec_Has spec_SenseOk k (b0, b1, (wrap64 (b2 + 1)), b3, b4, ()) else none
     else
      none
    else
     if b1 = (⟨#[]⟩ : ByteArray) then
      some (⟨#[110, 111, 110, 101]⟩ : ByteArray)
     else
      some b1
def spec_SenseNames_ (spec_Has : Nat → Int × Int → Option (Bool)) (spec_SenseOk : Nat → Int → Option (Bool)) (k : Nat) : Int → Option (ByteArray)
  | a0 =>
  (spec_SenseOk k a0).bind fun v0 =>
  if v0 = true then
   spec_SenseNames_L7 spec_Has spec_SenseOk k (a0, (⟨#[]⟩ : ByteArray), 0, [(⟨#[98, 108, 111, 99, 107]⟩ : ByteArray), (⟨#[97, 105, 114]⟩ : ByteArray), (⟨#[100, 111, 111, 114]⟩ : ByteArray), (⟨#[112, 111, 119, 101, 114]⟩ : ByteArray)], [1, 2, 4, 8], ())
  else
   some (⟨#[]⟩ : ByteArray)
noncomputable def g_spec_SenseNames : Int → Option (ByteArray) := evG (spec_SenseNames_ (fun _ => g_spec_Has) (fun _ => g_spec_SenseOk))
theorem e_spec_SenseNames : ∀ x b, g_spec_SenseNames x = some b → ∃ k, spec_SenseNames_ (fun _ => g_spec_Has) (fun _ => g_spec_SenseOk) k x = some b := evG_e _
/- spec_ReadSense -/
def con_spec_ReadSense (f : Nat → ByteArray → Option (Int × Bool)) : Con := ⟨[.c (.str)], 2, [.v false [.int .i64], .v false [.bool]], f⟩
def spec_ReadSense_L2 (spec_SenseNames : Nat → Int → Option (ByteArray)) : Nat → ByteArray × Int × Unit → Option (Int × Bool)
  | 0, _ => none
  | k + 1, (b0, b1, ()) =>
    if b1 < 16 then
     (spec_SenseNames k b1).bind fun v0 =>
     if v0 = b0 then
      some (b1, true)
     else
      spec_ReadSense_L2 spec_SenseNames k (b0, (wrap64 (b1 + 1)), ())
    else
     some (0, false)
def spec_ReadSense_ (spec_SenseNames : Nat → Int → Option (ByteArray)) (k : Nat) : ByteArray → Option (Int × Bool)
  | a0 =>
  spec_ReadSense_L2 spec_SenseNames k (a0, 0, ())
noncomputable def g_spec_ReadSense : ByteArray → Option (Int × Bool) := evG (spec_ReadSense_ (fun _ => g_spec_SenseNames))
theorem e_spec_ReadSense : ∀ x b, g_spec_ReadSense x = some b → ∃ k, spec_ReadSense_ (fun _ => g_spec_SenseNames) k x = some b := evG_e _
/- spec_l05Lines -/
def con_spec_l05Lines (f : Nat → ByteArray → Option (List ByteArray)) : Con := ⟨[.c (.str)], 1, [.v false [.own .str 9]], f⟩
def spec_l05Lines_L4 : Nat → ByteArray × Int × Int × List ByteArray × Unit → Option (List ByteArray)
  | 0, _ => none
  | k + 1, (b0, b1, b2, b3, ()) =>
    if b2 < ((ByteArray.size b0 : Nat) : Int) then
     if 0 ≤ b2 then
      if b2 < ((ByteArray.size b0 : Nat) : Int) then
       if (byt b0 b2) = 10 then
        if 0 ≤ b2 then
         if b2 ≤ ((ByteArray.size b0 : Nat) : Int) then
          if 0 ≤ b1 then
           if b1 ≤ b2 then
            if (((List.length b3 + List.length [(ByteArray.extract b0 (Int.toNat b1) (Int.toNat b2))] : Nat) : Int) * ((16 : Nat) : Int)) ≤ 140737488355328 then spec_l05Lines_L4 k (b0, (wrap64 (b2 + 1)), (wrap64 (b2 + 1)), (b3 ++ [(ByteArray.extract b0 (Int.toNat b1) (Int.toNat b2))]), ()) else none
           else
            none
          else
           none
         else
          none
        else
         none
       else
        spec_l05Lines_L4 k (b0, b1, (wrap64 (b2 + 1)), b3, ())
      else
       none
     else
      none
    else
     if b1 < ((ByteArray.size b0 : Nat) : Int) then
      if 0 ≤ b1 then
       if b1 ≤ ((ByteArray.size b0 : Nat) : Int) then
        if (((List.length b3 + List.length [(ByteArray.extract b0 (Int.toNat b1) (Int.toNat ((ByteArray.size b0 : Nat) : Int)))] : Nat) : Int) * ((16 : Nat) : Int)) ≤ 140737488355328 then some (b3 ++ [(ByteArray.extract b0 (Int.toNat b1) (Int.toNat ((ByteArray.size b0 : Nat) : Int)))]) else none
       else
        none
      else
       none
     else
      some b3
def spec_l05Lines_ (k : Nat) : ByteArray → Option (List ByteArray)
  | a0 =>
  spec_l05Lines_L4 k (a0, 0, 0, ([] : List ByteArray), ())
noncomputable def g_spec_l05Lines : ByteArray → Option (List ByteArray) := evG (spec_l05Lines_ )
theorem e_spec_l05Lines : ∀ x b, g_spec_l05Lines x = some b → ∃ k, spec_l05Lines_  k x = some b := evG_e _
/- spec_l20Line -/
def con_spec_l20Line (f : Nat → List ByteArray → Option ((Int × ByteArray × ByteArray) × Int)) : Con := ⟨[.c (.sl .str)], 2, [.v true [.int .i64, .str, .str], .v false [.int .i64]], f⟩
def spec_l20Line_L13 (spec_ReadDecimal : Nat → ByteArray → Option (Int × Bool)) (spec_ReadSense : Nat → ByteArray → Option (Int × Bool)) (spec_Unhex : Nat → ByteArray → Option (ByteArray × Bool)) (spec_l01In : Nat → Int × Int × Int → Option (Bool)) : Nat → ByteArray × Int × List ByteArray × Int × ByteArray × ByteArray × Unit → Option ((Int × ByteArray × ByteArray) × Int)
  | 0, _ => none
  | k + 1, (b0, b1, b2, b3, b4, b5, ()) =>
    if 0 ≤ 1 then
     if 1 < ((List.length b2 : Nat) : Int) then
      if b1 < ((ByteArray.size (List.getD b2 (Int.toNat 1) (⟨#[]⟩ : ByteArray)) : Nat) : Int) then
       if 0 ≤ 1 then
        if 1 < ((List.length b2 : Nat) : Int) then
         if 0 ≤ b1 then
          if b1 < ((ByteArray.size (List.getD b2 (Int.toNat 1) (⟨#[]⟩ : ByteArray)) : Nat) : Int) then
           if (byt (List.getD b2 (Int.toNat 1) (⟨#[]⟩ : ByteArray)) b1) = 46 then
            if ((ByteArray.size b0 + ByteArray.size (⟨#[10]⟩ : ByteArray) : Nat) : Int) ≤ 9223372036854775807 then spec_l20Line_L13 spec_ReadDecimal spec_ReadSense spec_Unhex spec_l01In k ((b0 ++ (⟨#[10]⟩ : ByteArray)), (wrap64 (b1 + 1)), b2, b3, b4, b5, ()) else none
           else
            if 0 ≤ 1 then
             if 1 < ((List.length b2 : Nat) : Int) then
              if 0 ≤ (wrap64 (b1 + 1)) then
               if (wrap64 (b1 + 1)) ≤ ((ByteArray.size (List.getD b2 (Int.toNat 1) (⟨#[]⟩ : ByteArray)) : Nat) : Int) then
                if 0 ≤ b1 then
                 if b1 ≤ (wrap64 (b1 + 1)) then
                  if ((ByteArray.size b0 + ByteArray.size (ByteArray.extract (List.getD b2 (Int.toNat 1) (⟨#[]⟩ : ByteArray)) (Int.toNat b1) (Int.toNat (wrap64 (b1 + 1)))) : Nat) : Int) ≤ 9223372036854775807 then spec_l20Line_L13 spec_ReadDecimal spec_ReadSense spec_Unhex spec_l01In k ((b0 ++ (ByteArray.extract (List.getD b2 (Int.toNat 1) (⟨#[]⟩ : ByteArray)) (Int.toNat b1) (Int.toNat (wrap64 (b1 + 1))))), (wrap64 (b1 + 1)), b2, b3, b4, b5, ()) else none
                 else
                  none
                else
                 none
               else
                none
              else
               none
             else
              none
            else
             none
          else
           none
         else
          none
        else
         none
       else
        none
      else
       some ((0, (b0, (⟨#[]⟩ : ByteArray))), 1)
     else
      none
    else
     none
def spec_l20Line_ (spec_ReadDecimal : Nat → ByteArray → Option (Int × Bool)) (spec_ReadSense : Nat → ByteArray → Option (Int × Bool)) (spec_Unhex : Nat → ByteArray → Option (ByteArray × Bool)) (spec_l01In : Nat → Int × Int × Int → Option (Bool)) (k : Nat) : List ByteArray → Option ((Int × ByteArray × ByteArray) × Int)
  | a0 =>
  if 0 ≤ 0 then
   if 0 < ((List.length a0 : Nat) : Int) then
    if (List.getD a0 (Int.toNat 0) (⟨#[]⟩ : ByteArray)) = (⟨#[116, 105, 99, 107]⟩ : ByteArray) then
     if ((List.length a0 : Nat) : Int) = 1 then
      some ((0, ((⟨#[]⟩ : ByteArray), (⟨#[]⟩ : ByteArray))), 1)
     else
      if ((List.length a0 : Nat) : Int) = 2 then
       if 0 ≤ 0 then
        if 0 < ((List.length a0 : Nat) : Int) then
         if (List.getD a0 (Int.toNat 0) (⟨#[]⟩ : ByteArray)) = (⟨#[102, 101, 101, 108]⟩ : ByteArray) then
          if 0 ≤ 1 then
           if 1 < ((List.length a0 : Nat) : Int) then (spec_ReadSense k (List.getD a0 (Int.toNat 1) (⟨#[]⟩ : ByteArray))).bind fun v0 =>
            if v0.2 = true then
             some ((v0.1, ((⟨#[]⟩ : ByteArray), (⟨#[]⟩ : ByteArray))), 1)
            else
             some ((0, ((⟨#[]⟩ : ByteArray), (⟨#[]⟩ : ByteArray))), 0) else none
          else
           none
         else
          if (List.getD a0 (Int.toNat 0) (⟨#[]⟩ : ByteArray)) = (⟨#[107, 101, 121, 115]⟩ : ByteArray) then
           spec_l20Line_L13 spec_ReadDecimal spec_ReadSense spec_Unhex spec_l01In k ((⟨#[]⟩ : ByteArray), 0, a0, 0, (⟨#[]⟩ : ByteArray), (⟨#[]⟩ : ByteArray), ())
          else
           if (List.getD a0 (Int.toNat 0) (⟨#[]⟩ : ByteArray)) = (⟨#[108, 105, 110, 107]⟩ : ByteArray) then
            if 0 ≤ 1 then
             if 1 < ((List.length a0 : Nat) : Int) then (spec_Unhex k (List.getD a0 (Int.toNat 1) (⟨#[]⟩ : ByteArray))).bind fun v1 =>
              if v1.2 = true then
               some ((0, ((⟨#[]⟩ : ByteArray), v1.1)), 1)
              else
               some ((0, ((⟨#[]⟩ : ByteArray), (⟨#[]⟩ : ByteArray))), 0) else none
            else
             none
           else
            if (List.getD a0 (Int.toNat 0) (⟨#[]⟩ : ByteArray)) = (⟨#[109, 97, 110, 121]⟩ : ByteArray) then
             if 0 ≤ 1 then
              if 1 < ((List.length a0 : Nat) : Int) then (spec_ReadDecimal k (List.getD a0 (Int.toNat 1) (⟨#[]⟩ : ByteArray))).bind fun v2 =>
               if v2.2 = true then
                (spec_l01In k (v2.1, (1, 50))).bind fun v3 =>
                if v3 = true then
                 some ((0, ((⟨#[]⟩ : ByteArray), (⟨#[]⟩ : ByteArray))), v2.1)
                else
                 some ((0, ((⟨#[]⟩ : ByteArray), (⟨#[]⟩ : ByteArray))), 0)
               else
                some ((0, ((⟨#[]⟩ : ByteArray), (⟨#[]⟩ : ByteArray))), 0) else none
             else
              none
            else
             some ((0, ((⟨#[]⟩ : ByteArray), (⟨#[]⟩ : ByteArray))), 0)
        else
         none
       else
        none
      else
       some ((0, ((⟨#[]⟩ : ByteArray), (⟨#[]⟩ : ByteArray))), 0)
    else
     if ((List.length a0 : Nat) : Int) = 2 then
      if 0 ≤ 0 then
       if 0 < ((List.length a0 : Nat) : Int) then
        if (List.getD a0 (Int.toNat 0) (⟨#[]⟩ : ByteArray)) = (⟨#[102, 101, 101, 108]⟩ : ByteArray) then
         if 0 ≤ 1 then
          if 1 < ((List.length a0 : Nat) : Int) then (spec_ReadSense k (List.getD a0 (Int.toNat 1) (⟨#[]⟩ : ByteArray))).bind fun v4 =>
           if v4.2 = true then
            some ((v4.1, ((⟨#[]⟩ : ByteArray), (⟨#[]⟩ : ByteArray))), 1)
           else
            some ((0, ((⟨#[]⟩ : ByteArray), (⟨#[]⟩ : ByteArray))), 0) else none
         else
          none
        else
         if (List.getD a0 (Int.toNat 0) (⟨#[]⟩ : ByteArray)) = (⟨#[107, 101, 121, 115]⟩ : ByteArray) then
          spec_l20Line_L13 spec_ReadDecimal spec_ReadSense spec_Unhex spec_l01In k ((⟨#[]⟩ : ByteArray), 0, a0, 0, (⟨#[]⟩ : ByteArray), (⟨#[]⟩ : ByteArray), ())
         else
          if (List.getD a0 (Int.toNat 0) (⟨#[]⟩ : ByteArray)) = (⟨#[108, 105, 110, 107]⟩ : ByteArray) then
           if 0 ≤ 1 then
            if 1 < ((List.length a0 : Nat) : Int) then (spec_Unhex k (List.getD a0 (Int.toNat 1) (⟨#[]⟩ : ByteArray))).bind fun v5 =>
             if v5.2 = true then
              some ((0, ((⟨#[]⟩ : ByteArray), v5.1)), 1)
             else
              some ((0, ((⟨#[]⟩ : ByteArray), (⟨#[]⟩ : ByteArray))), 0) else none
           else
            none
          else
           if (List.getD a0 (Int.toNat 0) (⟨#[]⟩ : ByteArray)) = (⟨#[109, 97, 110, 121]⟩ : ByteArray) then
            if 0 ≤ 1 then
             if 1 < ((List.length a0 : Nat) : Int) then (spec_ReadDecimal k (List.getD a0 (Int.toNat 1) (⟨#[]⟩ : ByteArray))).bind fun v6 =>
              if v6.2 = true then
               (spec_l01In k (v6.1, (1, 50))).bind fun v7 =>
               if v7 = true then
                some ((0, ((⟨#[]⟩ : ByteArray), (⟨#[]⟩ : ByteArray))), v6.1)
               else
                some ((0, ((⟨#[]⟩ : ByteArray), (⟨#[]⟩ : ByteArray))), 0)
              else
               some ((0, ((⟨#[]⟩ : ByteArray), (⟨#[]⟩ : ByteArray))), 0) else none
            else
             none
           else
            some ((0, ((⟨#[]⟩ : ByteArray), (⟨#[]⟩ : ByteArray))), 0)
       else
        none
      else
       none
     else
      some ((0, ((⟨#[]⟩ : ByteArray), (⟨#[]⟩ : ByteArray))), 0)
   else
    none
  else
   none
noncomputable def g_spec_l20Line : List ByteArray → Option ((Int × ByteArray × ByteArray) × Int) := evG (spec_l20Line_ (fun _ => g_spec_ReadDecimal) (fun _ => g_spec_ReadSense) (fun _ => g_spec_Unhex) (fun _ => g_spec_l01In))
theorem e_spec_l20Line : ∀ x b, g_spec_l20Line x = some b → ∃ k, spec_l20Line_ (fun _ => g_spec_ReadDecimal) (fun _ => g_spec_ReadSense) (fun _ => g_spec_Unhex) (fun _ => g_spec_l01In) k x = some b := evG_e _
/- spec_PartsOf -/
def con_spec_PartsOf (f : Nat → ByteArray → Option (List ByteArray × Bool)) : Con := ⟨[.c (.str)], 2, [.v false [.own .str 9], .v false [.bool]], f⟩
def spec_PartsOf_L6 : Nat → ByteArray × Int × Int × List ByteArray × Unit → Option (List ByteArray × Bool)
  | 0, _ => none
  | k + 1, (b0, b1, b2, b3, ()) =>
    if b2 ≤ ((ByteArray.size b0 : Nat) : Int) then
     if b2 < ((ByteArray.size b0 : Nat) : Int) then
      if 0 ≤ b2 then
       if b2 < ((ByteArray.size b0 : Nat) : Int) then
        if (byt b0 b2) < 32 then
         some (([] : List ByteArray), false)
        else
         if 0 ≤ b2 then
          if b2 < ((ByteArray.size b0 : Nat) : Int) then
           if 126 < (byt b0 b2) then
            some (([] : List ByteArray), false)
           else
            if b2 < ((ByteArray.size b0 : Nat) : Int) then
             if 0 ≤ b2 then
              if b2 < ((ByteArray.size b0 : Nat) : Int) then
               if (byt b0 b2) = 32 then
                if b1 < b2 then
                 if 0 ≤ b2 then
                  if b2 ≤ ((ByteArray.size b0 : Nat) : Int) then
                   if 0 ≤ b1 then
                    if b1 ≤ b2 then
                     if (((List.length b3 + List.length [(ByteArray.extract b0 (Int.toNat b1) (Int.toNat b2))] : Nat) : Int) * ((16 : Nat) : Int)) ≤ 140737488355328 then spec_PartsOf_L6 k (b0, (wrap64 (b2 + 1)), (wrap64 (b2 + 1)), (b3 ++ [(ByteArray.extract b0 (Int.toNat b1) (Int.toNat b2))]), ()) else none
                    else
                     none
                   else
                    none
                  else
                   none
                 else
                  none
                else
                 spec_PartsOf_L6 k (b0, (wrap64 (b2 + 1)), (wrap64 (b2 + 1)), b3, ())
               else
                spec_PartsOf_L6 k (b0, b1, (wrap64 (b2 + 1)), b3, ())
              else
               none
             else
              none
            else
             if b1 < b2 then
              if 0 ≤ b2 then
               if b2 ≤ ((ByteArray.size b0 : Nat) : Int) then
                if 0 ≤ b1 then
                 if b1 ≤ b2 then
                  if (((List.length b3 + List.length [(ByteArray.extract b0 (Int.toNat b1) (Int.toNat b2))] : Nat) : Int) * ((16 : Nat) : Int)) ≤ 140737488355328 then spec_PartsOf_L6 k (b0, (wrap64 (b2 + 1)), (wrap64 (b2 + 1)), (b3 ++ [(ByteArray.extract b0 (Int.toNat b1) (Int.toNat b2))]), ()) else none
                 else
                  none
                else
                 none
               else
                none
              else
               none
             else
              spec_PartsOf_L6 k (b0, (wrap64 (b2 + 1)), (wrap64 (b2 + 1)), b3, ())
          else
           none
         else
          none
       else
        none
      else
       none
     else
      if b2 < ((ByteArray.size b0 : Nat) : Int) then
       if 0 ≤ b2 then
        if b2 < ((ByteArray.size b0 : Nat) : Int) then
         if (byt b0 b2) = 32 then
          if b1 < b2 then
           if 0 ≤ b2 then
            if b2 ≤ ((ByteArray.size b0 : Nat) : Int) then
             if 0 ≤ b1 then
              if b1 ≤ b2 then
               if (((List.length b3 + List.length [(ByteArray.extract b0 (Int.toNat b1) (Int.toNat b2))] : Nat) : Int) * ((16 : Nat) : Int)) ≤ 140737488355328 then spec_PartsOf_L6 k (b0, (wrap64 (b2 + 1)), (wrap64 (b2 + 1)), (b3 ++ [(ByteArray.extract b0 (Int.toNat b1) (Int.toNat b2))]), ()) else none
              else
               none
             else
              none
            else
             none
           else
            none
          else
           spec_PartsOf_L6 k (b0, (wrap64 (b2 + 1)), (wrap64 (b2 + 1)), b3, ())
         else
          spec_PartsOf_L6 k (b0, b1, (wrap64 (b2 + 1)), b3, ())
        else
         none
       else
        none
      else
       if b1 < b2 then
        if 0 ≤ b2 then
         if b2 ≤ ((ByteArray.size b0 : Nat) : Int) then
          if 0 ≤ b1 then
           if b1 ≤ b2 then
            if (((List.length b3 + List.length [(ByteArray.extract b0 (Int.toNat b1) (Int.toNat b2))] : Nat) : Int) * ((16 : Nat) : Int)) ≤ 140737488355328 then spec_PartsOf_L6 k (b0, (wrap64 (b2 + 1)), (wrap64 (b2 + 1)), (b3 ++ [(ByteArray.extract b0 (Int.toNat b1) (Int.toNat b2))]), ()) else none
           else
            none
          else
           none
         else
          none
        else
         none
       else
        spec_PartsOf_L6 k (b0, (wrap64 (b2 + 1)), (wrap64 (b2 + 1)), b3, ())
    else
     if 10 < ((List.length b3 : Nat) : Int) then
      some (([] : List ByteArray), false)
     else
      some (b3, true)
def spec_PartsOf_ (k : Nat) : ByteArray → Option (List ByteArray × Bool)
  | a0 =>
  if 600 < ((ByteArray.size a0 : Nat) : Int) then
   some (([] : List ByteArray), false)
  else
   spec_PartsOf_L6 k (a0, 0, 0, ([] : List ByteArray), ())
noncomputable def g_spec_PartsOf : ByteArray → Option (List ByteArray × Bool) := evG (spec_PartsOf_ )
theorem e_spec_PartsOf : ∀ x b, g_spec_PartsOf x = some b → ∃ k, spec_PartsOf_  k x = some b := evG_e _
/- spec_ReadScript -/
def con_spec_ReadScript (f : Nat → ByteArray → Option (((List (Int × (ByteArray × ByteArray)))) × Int)) : Con := ⟨[.c (.str)], 2, [.v false [.own (.pair (.int .i64) (.pair .str .str)) 33], .v false [.int .i64]], f⟩
mutual
def spec_ReadScript_L7 (spec_InOk : Nat → (Int × ByteArray × ByteArray) → Option (Bool)) (spec_PartsOf : Nat → ByteArray → Option (List ByteArray × Bool)) (spec_l05Lines : Nat → ByteArray → Option (List ByteArray)) (spec_l20Line : Nat → List ByteArray → Option ((Int × ByteArray × ByteArray) × Int)) : Nat → Int × (List (Int × (ByteArray × ByteArray))) × List ByteArray × (List (Int × (ByteArray × ByteArray))) × Unit → Option (((List (Int × (ByteArray × ByteArray)))) × Int)
  | 0, _ => none
  | k + 1, (b0, b1, b2, b3, ()) =>
    if b0 < ((List.length b2 : Nat) : Int) then
     if 0 ≤ b0 then
      if b0 < ((List.length b2 : Nat) : Int) then (spec_PartsOf k (List.getD b2 (Int.toNat b0) (⟨#[]⟩ : ByteArray))).bind fun v0 =>
       if v0.2 = true then
        if ((List.length v0.1 : Nat) : Int) = 0 then
         spec_ReadScript_L7 spec_InOk spec_PartsOf spec_l05Lines spec_l20Line k ((wrap64 (b0 + 1)), b1, b2, b3, ())
        else
         if 0 ≤ 0 then
          if 0 < ((List.length v0.1 : Nat) : Int) then
           if 0 ≤ 0 then
            if 0 < ((ByteArray.size (List.getD v0.1 (Int.toNat 0) (⟨#[]⟩ : ByteArray)) : Nat) : Int) then
             if (byt (List.getD v0.1 (Int.toNat 0) (⟨#[]⟩ : ByteArray)) 0) = 35 then
              spec_ReadScript_L7 spec_InOk spec_PartsOf spec_l05Lines spec_l20Line k ((wrap64 (b0 + 1)), b1, b2, b3, ())
             else
              if v0.2 = true then
               (spec_l20Line k v0.1).bind fun v1 =>
               if v1.2 = 0 then
                some (b1, (wrap64 (b0 + 1)))
               else
                (spec_InOk k v1.1).bind fun v2 =>
                if v2 = true then
                 if 150 < (wrap64 (((List.length b3 : Nat) : Int) + v1.2)) then
                  some (b1, (wrap64 (b0 + 1)))
                 else
                  spec_ReadScript_L17 spec_InOk spec_PartsOf spec_l05Lines spec_l20Line k (b0, v1.2, 0, b1, b2, b3, v1.1.1, v1.1.2.1, v1.1.2.2, ())
                else
                 some (b1, (wrap64 (b0 + 1)))
              else
               some (b1, (wrap64 (b0 + 1)))
            else
             none
           else
            none
          else
           none
         else
          none
       else
        if v0.2 = true then
         (spec_l20Line k v0.1).bind fun v3 =>
         if v3.2 = 0 then
          some (b1, (wrap64 (b0 + 1)))
         else
          (spec_InOk k v3.1).bind fun v4 =>
          if v4 = true then
           if 150 < (wrap64 (((List.length b3 : Nat) : Int) + v3.2)) then
            some (b1, (wrap64 (b0 + 1)))
           else
            spec_ReadScript_L17 spec_InOk spec_PartsOf spec_l05Lines spec_l20Line k (b0, v3.2, 0, b1, b2, b3, v3.1.1, v3.1.2.1, v3.1.2.2, ())
          else
           some (b1, (wrap64 (b0 + 1)))
        else
         some (b1, (wrap64 (b0 + 1))) else none
     else
      none
    else
     some (b3, 0)
def spec_ReadScript_L17 (spec_InOk : Nat → (Int × ByteArray × ByteArray) → Option (Bool)) (spec_PartsOf : Nat → ByteArray → Option (List ByteArray × Bool)) (spec_l05Lines : Nat → ByteArray → Option (List ByteArray)) (spec_l20Line : Nat → List ByteArray → Option ((Int × ByteArray × ByteArray) × Int)) : Nat → Int × Int × Int × (List (Int × (ByteArray × ByteArray))) × List ByteArray × (List (Int × (ByteArray × ByteArray))) × Int × ByteArray × ByteArray × Unit → Option (((List (Int × (ByteArray × ByteArray)))) × Int)
  | 0, _ => none
  | k + 1, (b0, b1, b2, b3, b4, b5, b6, b7, b8, ()) =>
    if b2 < b1 then
     if (((List.length b5 + List.length [(b6, (b7, b8))] : Nat) : Int) * ((40 : Nat) : Int)) ≤ 140737488355328 then spec_ReadScript_L17 spec_InOk spec_PartsOf spec_l05Lines spec_l20Line k (b0, b1, (wrap64 (b2 + 1)), b3, b4, (b5 ++ [(b6, (b7, b8))]), b6, b7, b8, ()) else none
    else
     spec_ReadScript_L7 spec_InOk spec_PartsOf spec_l05Lines spec_l20Line k ((wrap64 (b0 + 1)), b3, b4, b5, ())
end
def spec_ReadScript_ (spec_InOk : Nat → (Int × ByteArray × ByteArray) → Option (Bool)) (spec_PartsOf : Nat → ByteArray → Option (List ByteArray × Bool)) (spec_l05Lines : Nat → ByteArray → Option (List ByteArray)) (spec_l20Line : Nat → List ByteArray → Option ((Int × ByteArray × ByteArray) × Int)) (k : Nat) : ByteArray → Option (((List (Int × (ByteArray × ByteArray)))) × Int)
  | a0 =>
  if 3000 < ((ByteArray.size a0 : Nat) : Int) then
   some (([] : List (Int × (ByteArray × ByteArray))), (-1))
  else
   (spec_l05Lines k a0).bind fun v0 =>
   if 120 < ((List.length v0 : Nat) : Int) then
    some (([] : List (Int × (ByteArray × ByteArray))), (-1))
   else
    (spec_l05Lines k a0).bind fun v1 =>
    spec_ReadScript_L7 spec_InOk spec_PartsOf spec_l05Lines spec_l20Line k (0, ([] : List (Int × (ByteArray × ByteArray))), v1, ([] : List (Int × (ByteArray × ByteArray))), ())
noncomputable def g_spec_ReadScript : ByteArray → Option (((List (Int × (ByteArray × ByteArray)))) × Int) := evG (spec_ReadScript_ (fun _ => g_spec_InOk) (fun _ => g_spec_PartsOf) (fun _ => g_spec_l05Lines) (fun _ => g_spec_l20Line))
theorem e_spec_ReadScript : ∀ x b, g_spec_ReadScript x = some b → ∃ k, spec_ReadScript_ (fun _ => g_spec_InOk) (fun _ => g_spec_PartsOf) (fun _ => g_spec_l05Lines) (fun _ => g_spec_l20Line) k x = some b := evG_e _
/- laws_FnExactReadScript -/
def con_laws_FnExactReadScript (f : Nat → ByteArray → Option (Bool)) : Con := ⟨[.c (.str)], 1, [.v false [.bool]], f⟩
def laws_FnExactReadScript_ (impl_ReadScript : Nat → ByteArray → Option (((List (Int × (ByteArray × ByteArray)))) × Int)) (laws_eqInS : Nat → ((List (Int × (ByteArray × ByteArray)))) × ((List (Int × (ByteArray × ByteArray)))) → Option (Bool)) (laws_heldInS : Nat → ((List (Int × (ByteArray × ByteArray)))) × Int → Option (Int)) (laws_markInS : Nat → ((List (Int × (ByteArray × ByteArray)))) × Int → Option (Int × (List (Int × (ByteArray × ByteArray))))) (spec_ReadScript : Nat → ByteArray → Option (((List (Int × (ByteArray × ByteArray)))) × Int)) (k : Nat) : ByteArray → Option (Bool)
  | a0 =>
  if 1048576 < ((ByteArray.size a0 : Nat) : Int) then
   some true
  else
   (spec_ReadScript k a0).bind fun v0 =>
   (impl_ReadScript k a0).bind fun v1 =>
   (laws_eqInS k (v1.1, v0.1)).bind fun v2 =>
   if v2 = true then
    if v1.2 = v0.2 then
     (laws_markInS k (v1.1, 1)).bind fun v3 =>
     (laws_heldInS k (v3.2, 1)).bind fun v4 =>
     if v4 < 0 then
      some false
     else
      if v4 = v3.1 then
       (impl_ReadScript k a0).bind fun v5 =>
       (laws_eqInS k (v5.1, v0.1)).bind fun v6 =>
       if v6 = true then
        if v5.2 = v0.2 then
         (laws_heldInS k (v3.2, 1)).bind fun v7 =>
         if v7 < 0 then
          some false
         else
          if v7 = v3.1 then
           some true
          else
           some false
        else
         some false
       else
        some false
      else
       some false
    else
     some false
   else
    some false
noncomputable def g_laws_FnExactReadScript : ByteArray → Option (Bool) := laws_FnExactReadScript_ (fun _ => g_impl_ReadScript) (fun _ => g_laws_eqInS) (fun _ => g_laws_heldInS) (fun _ => g_laws_markInS) (fun _ => g_spec_ReadScript) 0
theorem e_laws_FnExactReadScript : ∀ x b, g_laws_FnExactReadScript x = some b → ∃ k, laws_FnExactReadScript_ (fun _ => g_impl_ReadScript) (fun _ => g_laws_eqInS) (fun _ => g_laws_heldInS) (fun _ => g_laws_markInS) (fun _ => g_spec_ReadScript) k x = some b := fun x b h => ⟨0, h⟩
end Go.Sx.T
