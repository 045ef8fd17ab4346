/- Functions of the program as functions of Lean, and that the program keeps to them. -/
import Derived.Test.YtkcfdkfdmglamaaFnLinksA0
import Derived.Test.YtkcfdkfdmglamaaProg
set_option maxRecDepth 100000
set_option linter.unusedVariables false
set_option linter.unusedSimpArgs false
namespace Go.Proofs
end Go.Proofs
namespace Go.Sx.T
open Go Go.Sx Go.Proofs Go.RowKit
theorem okp_impl_PumpNew : CtrOK Try.prog 21 (con_impl_PumpNew (impl_PumpNew_ )) :=
  fun_ok0 (c := Try.f21.body.getD .skip) (con_impl_PumpNew (impl_PumpNew_ )) (gOf []) rfl Try.func21 rfl rfl rfl (gOf_nil) (by kernel_rfl) (by kernel_rfl)
theorem ok_impl_PumpNew : CtrOK Try.prog 21 (con_impl_PumpNew fun _ => g_impl_PumpNew) := (okp_impl_PumpNew  ).nice e_impl_PumpNew

def lp_laws_sameTicks_4 : LP := ⟨[(0, false, [.sl 0]), (1, false, [.sl 1]), (5, false, [.int .i64])], [.ro (.pair (.int .i64) (.pair (.int .i64) (.int .i64))) 0, .ro (.pair (.int .i64) (.pair (.int .i64) (.int .i64))) 0], 2⟩
theorem okp_laws_sameTicks : CtrOK Try.prog 20 (con_laws_sameTicks (laws_sameTicks_ )) :=
  fun_ok (c := Try.f20.body.getD .skip) (con_laws_sameTicks (laws_sameTicks_ )) (gOf []) [] [⟨4, lp_laws_sameTicks_4, laws_sameTicks_L4 ⟩] rfl Try.func20 rfl rfl rfl (gOf_nil) (by kernel_rfl) [4] 2 (by kernel_rfl) (by kernel_rfl)
    (fun x => .cons (⟨4, lp_laws_sameTicks_4, laws_sameTicks_L4 ⟩ : Lab (OKs [.v false [.bool]])) rfl rfl (by kernel_rfl) (by kernel_rfl) (.nil _))
theorem ok_laws_sameTicks : CtrOK Try.prog 20 (con_laws_sameTicks fun _ => g_laws_sameTicks) := (okp_laws_sameTicks  ).nice e_laws_sameTicks

def lp_impl_RoomOf_3 : LP := ⟨[(3, false, [.int .i64]), (7, false, [.sl 0]), (8, false, [.int .i64]), (9, false, [.int .i64])], [.ro (.int .i64) 0], 1⟩
theorem okp_impl_RoomOf : CtrOK Try.prog 124 (con_impl_RoomOf (impl_RoomOf_ )) :=
  fun_ok (c := Try.f124.body.getD .skip) (con_impl_RoomOf (impl_RoomOf_ )) (gOf []) [] [⟨3, lp_impl_RoomOf_3, impl_RoomOf_L3 ⟩] rfl Try.func124 rfl rfl rfl (gOf_nil) (by kernel_rfl) [3] 1 (by kernel_rfl) (by kernel_rfl)
    (fun x => .cons (⟨3, lp_impl_RoomOf_3, impl_RoomOf_L3 ⟩ : Lab (OKs [.v false [.int .i64]])) rfl rfl (by kernel_rfl) (by kernel_rfl) (.nil _))
theorem ok_impl_RoomOf : CtrOK Try.prog 124 (con_impl_RoomOf fun _ => g_impl_RoomOf) := (okp_impl_RoomOf  ).nice e_impl_RoomOf

theorem okp_impl_within : CtrOK Try.prog 122 (con_impl_within (impl_within_ )) :=
  fun_ok0 (c := Try.f122.body.getD .skip) (con_impl_within (impl_within_ )) (gOf []) rfl Try.func122 rfl rfl rfl (gOf_nil) (by kernel_rfl) (by kernel_rfl)
theorem ok_impl_within : CtrOK Try.prog 122 (con_impl_within fun _ => g_impl_within) := (okp_impl_within  ).nice e_impl_within

theorem okp_impl_SenseOk (impl_within : Nat → Int × Int × Int → Option (Bool)) (h122 : CtrOK Try.prog 122 (con_impl_within impl_within)) : CtrOK Try.prog 74 (con_impl_SenseOk (impl_SenseOk_ impl_within )) :=
  fun_ok0 (c := Try.f74.body.getD .skip) (con_impl_SenseOk (impl_SenseOk_ impl_within )) (gOf [(122, con_impl_within impl_within)]) rfl Try.func74 rfl rfl rfl (gOf_cons h122 (gOf_nil)) (by kernel_rfl) (by kernel_rfl)
theorem ok_impl_SenseOk : CtrOK Try.prog 74 (con_impl_SenseOk fun _ => g_impl_SenseOk) := (okp_impl_SenseOk _ ok_impl_within).nice e_impl_SenseOk

def lp_impl_GuardOk_2 : LP := ⟨[(1, false, [.ptr 1 0]), (6, false, [.sl 0]), (7, false, [.int .i64]), (8, false, [.int .i64])], [.ro (.int .i64) 0, .box [.sl 0, .int .i64] 38], 1⟩
theorem okp_impl_GuardOk (impl_RoomOf : Nat → (List Int × Int) → Option (Int)) (impl_SenseOk : Nat → Int → Option (Bool)) (impl_within : Nat → Int × Int × Int → Option (Bool)) (h124 : CtrOK Try.prog 124 (con_impl_RoomOf impl_RoomOf)) (h74 : CtrOK Try.prog 74 (con_impl_SenseOk impl_SenseOk)) (h122 : CtrOK Try.prog 122 (con_impl_within impl_within)) : CtrOK Try.prog 50 (con_impl_GuardOk (impl_GuardOk_ impl_RoomOf impl_SenseOk impl_within )) :=
  fun_ok (c := Try.f50.body.getD .skip) (con_impl_GuardOk (impl_GuardOk_ impl_RoomOf impl_SenseOk impl_within )) (gOf [(124, con_impl_RoomOf impl_RoomOf), (74, con_impl_SenseOk impl_SenseOk), (122, con_impl_within impl_within)]) [] [⟨2, lp_impl_GuardOk_2, impl_GuardOk_L2 impl_RoomOf impl_SenseOk impl_within ⟩] rfl Try.func50 rfl rfl rfl (gOf_cons h124 (gOf_cons h74 (gOf_cons h122 (gOf_nil)))) (by kernel_rfl) [2] 1 (by kernel_rfl) (by kernel_rfl)
    (fun x => .cons (⟨2, lp_impl_GuardOk_2, impl_GuardOk_L2 impl_RoomOf impl_SenseOk impl_within ⟩ : Lab (OKs [.v false [.bool]])) rfl rfl (by kernel_rfl) (by kernel_rfl) (.nil _))
theorem ok_impl_GuardOk : CtrOK Try.prog 50 (con_impl_GuardOk fun _ => g_impl_GuardOk) := (okp_impl_GuardOk _ _ _ ok_impl_RoomOf ok_impl_SenseOk ok_impl_within).nice e_impl_GuardOk

theorem okp_impl_copyInts : CtrOK Try.prog 155 (con_impl_copyInts (impl_copyInts_ )) :=
  fun_ok0 (c := Try.f155.body.getD .skip) (con_impl_copyInts (impl_copyInts_ )) (gOf []) rfl Try.func155 rfl rfl rfl (gOf_nil) (by kernel_rfl) (by kernel_rfl)
theorem ok_impl_copyInts : CtrOK Try.prog 155 (con_impl_copyInts fun _ => g_impl_copyInts) := (okp_impl_copyInts  ).nice e_impl_copyInts

theorem okp_impl_copyGuard (impl_copyInts : Nat → List Int → Option (List Int)) (h155 : CtrOK Try.prog 155 (con_impl_copyInts impl_copyInts)) : CtrOK Try.prog 126 (con_impl_copyGuard (impl_copyGuard_ impl_copyInts )) :=
  fun_ok0 (c := Try.f126.body.getD .skip) (con_impl_copyGuard (impl_copyGuard_ impl_copyInts )) (gOf [(155, con_impl_copyInts impl_copyInts)]) rfl Try.func126 rfl rfl rfl (gOf_cons h155 (gOf_nil)) (by kernel_rfl) (by kernel_rfl)
theorem ok_impl_copyGuard : CtrOK Try.prog 126 (con_impl_copyGuard fun _ => g_impl_copyGuard) := (okp_impl_copyGuard _ ok_impl_copyInts).nice e_impl_copyGuard

theorem okp_impl_Pass (impl_GuardOk : Nat → (List Int × Int) → Option (Bool)) (impl_RoomOf : Nat → (List Int × Int) → Option (Int)) (impl_copyGuard : Nat → (List Int × Int) → Option ((List Int × Int))) (h50 : CtrOK Try.prog 50 (con_impl_GuardOk impl_GuardOk)) (h124 : CtrOK Try.prog 124 (con_impl_RoomOf impl_RoomOf)) (h126 : CtrOK Try.prog 126 (con_impl_copyGuard impl_copyGuard)) : CtrOK Try.prog 63 (con_impl_Pass (impl_Pass_ impl_GuardOk impl_RoomOf impl_copyGuard )) :=
  fun_ok0 (c := Try.f63.body.getD .skip) (con_impl_Pass (impl_Pass_ impl_GuardOk impl_RoomOf impl_copyGuard )) (gOf [(50, con_impl_GuardOk impl_GuardOk), (124, con_impl_RoomOf impl_RoomOf), (126, con_impl_copyGuard impl_copyGuard)]) rfl Try.func63 rfl rfl rfl (gOf_cons h50 (gOf_cons h124 (gOf_cons h126 (gOf_nil)))) (by kernel_rfl) (by kernel_rfl)
theorem ok_impl_Pass : CtrOK Try.prog 63 (con_impl_Pass fun _ => g_impl_Pass) := (okp_impl_Pass _ _ _ ok_impl_GuardOk ok_impl_RoomOf ok_impl_copyGuard).nice e_impl_Pass

theorem okp_impl_RateOk (impl_within : Nat → Int × Int × Int → Option (Bool)) (h122 : CtrOK Try.prog 122 (con_impl_within impl_within)) : CtrOK Try.prog 123 (con_impl_RateOk (impl_RateOk_ impl_within )) :=
  fun_ok0 (c := Try.f123.body.getD .skip) (con_impl_RateOk (impl_RateOk_ impl_within )) (gOf [(122, con_impl_within impl_within)]) rfl Try.func123 rfl rfl rfl (gOf_cons h122 (gOf_nil)) (by kernel_rfl) (by kernel_rfl)
theorem ok_impl_RateOk : CtrOK Try.prog 123 (con_impl_RateOk fun _ => g_impl_RateOk) := (okp_impl_RateOk _ ok_impl_within).nice e_impl_RateOk

theorem okp_impl_StepRate (impl_RateOk : Nat → (Int × Int × Int) → Option (Bool)) (h123 : CtrOK Try.prog 123 (con_impl_RateOk impl_RateOk)) : CtrOK Try.prog 132 (con_impl_StepRate (impl_StepRate_ impl_RateOk )) :=
  fun_ok0 (c := Try.f132.body.getD .skip) (con_impl_StepRate (impl_StepRate_ impl_RateOk )) (gOf [(123, con_impl_RateOk impl_RateOk)]) rfl Try.func132 rfl rfl rfl (gOf_cons h123 (gOf_nil)) (by kernel_rfl) (by kernel_rfl)
theorem ok_impl_StepRate : CtrOK Try.prog 132 (con_impl_StepRate fun _ => g_impl_StepRate) := (okp_impl_StepRate _ ok_impl_RateOk).nice e_impl_StepRate

theorem okp_impl_PumpOk (impl_RateOk : Nat → (Int × Int × Int) → Option (Bool)) (impl_within : Nat → Int × Int × Int → Option (Bool)) (h123 : CtrOK Try.prog 123 (con_impl_RateOk impl_RateOk)) (h122 : CtrOK Try.prog 122 (con_impl_within impl_within)) : CtrOK Try.prog 49 (con_impl_PumpOk (impl_PumpOk_ impl_RateOk impl_within )) :=
  fun_ok0 (c := Try.f49.body.getD .skip) (con_impl_PumpOk (impl_PumpOk_ impl_RateOk impl_within )) (gOf [(123, con_impl_RateOk impl_RateOk), (122, con_impl_within impl_within)]) rfl Try.func49 rfl rfl rfl (gOf_cons h123 (gOf_cons h122 (gOf_nil))) (by kernel_rfl) (by kernel_rfl)
theorem ok_impl_PumpOk : CtrOK Try.prog 49 (con_impl_PumpOk fun _ => g_impl_PumpOk) := (okp_impl_PumpOk _ _ ok_impl_RateOk ok_impl_within).nice e_impl_PumpOk

theorem okp_impl_Wants (impl_PumpOk : Nat → (Int × Int × Int × Int × Int × Int × Int × Int) → Option (Bool)) (impl_StepRate : Nat → (Int × Int × Int) → Option ((Int × Int × Int) × Int)) (h49 : CtrOK Try.prog 49 (con_impl_PumpOk impl_PumpOk)) (h132 : CtrOK Try.prog 132 (con_impl_StepRate impl_StepRate)) : CtrOK Try.prog 61 (con_impl_Wants (impl_Wants_ impl_PumpOk impl_StepRate )) :=
  fun_ok0 (c := Try.f61.body.getD .skip) (con_impl_Wants (impl_Wants_ impl_PumpOk impl_StepRate )) (gOf [(49, con_impl_PumpOk impl_PumpOk), (132, con_impl_StepRate impl_StepRate)]) rfl Try.func61 rfl rfl rfl (gOf_cons h49 (gOf_cons h132 (gOf_nil))) (by kernel_rfl) (by kernel_rfl)
theorem ok_impl_Wants : CtrOK Try.prog 61 (con_impl_Wants fun _ => g_impl_Wants) := (okp_impl_Wants _ _ ok_impl_PumpOk ok_impl_StepRate).nice e_impl_Wants

theorem okp_impl_Give (impl_PumpOk : Nat → (Int × Int × Int × Int × Int × Int × Int × Int) → Option (Bool)) (impl_StepRate : Nat → (Int × Int × Int) → Option ((Int × Int × Int) × Int)) (impl_Wants : Nat → (Int × Int × Int × Int × Int × Int × Int × Int) → Option (Int)) (h49 : CtrOK Try.prog 49 (con_impl_PumpOk impl_PumpOk)) (h132 : CtrOK Try.prog 132 (con_impl_StepRate impl_StepRate)) (h61 : CtrOK Try.prog 61 (con_impl_Wants impl_Wants)) : CtrOK Try.prog 62 (con_impl_Give (impl_Give_ impl_PumpOk impl_StepRate impl_Wants )) :=
  fun_ok0 (c := Try.f62.body.getD .skip) (con_impl_Give (impl_Give_ impl_PumpOk impl_StepRate impl_Wants )) (gOf [(49, con_impl_PumpOk impl_PumpOk), (132, con_impl_StepRate impl_StepRate), (61, con_impl_Wants impl_Wants)]) rfl Try.func62 rfl rfl rfl (gOf_cons h49 (gOf_cons h132 (gOf_cons h61 (gOf_nil)))) (by kernel_rfl) (by kernel_rfl)
theorem ok_impl_Give : CtrOK Try.prog 62 (con_impl_Give fun _ => g_impl_Give) := (okp_impl_Give _ _ _ ok_impl_PumpOk ok_impl_StepRate ok_impl_Wants).nice e_impl_Give

theorem okp_impl_Allow (impl_GuardOk : Nat → (List Int × Int) → Option (Bool)) (impl_RoomOf : Nat → (List Int × Int) → Option (Int)) (h50 : CtrOK Try.prog 50 (con_impl_GuardOk impl_GuardOk)) (h124 : CtrOK Try.prog 124 (con_impl_RoomOf impl_RoomOf)) : CtrOK Try.prog 60 (con_impl_Allow (impl_Allow_ impl_GuardOk impl_RoomOf )) :=
  fun_ok0 (c := Try.f60.body.getD .skip) (con_impl_Allow (impl_Allow_ impl_GuardOk impl_RoomOf )) (gOf [(50, con_impl_GuardOk impl_GuardOk), (124, con_impl_RoomOf impl_RoomOf)]) rfl Try.func60 rfl rfl rfl (gOf_cons h50 (gOf_cons h124 (gOf_nil))) (by kernel_rfl) (by kernel_rfl)
theorem ok_impl_Allow : CtrOK Try.prog 60 (con_impl_Allow fun _ => g_impl_Allow) := (okp_impl_Allow _ _ ok_impl_GuardOk ok_impl_RoomOf).nice e_impl_Allow

theorem okp_impl_Feel (impl_GuardOk : Nat → (List Int × Int) → Option (Bool)) (impl_SenseOk : Nat → Int → Option (Bool)) (impl_copyGuard : Nat → (List Int × Int) → Option ((List Int × Int))) (h50 : CtrOK Try.prog 50 (con_impl_GuardOk impl_GuardOk)) (h74 : CtrOK Try.prog 74 (con_impl_SenseOk impl_SenseOk)) (h126 : CtrOK Try.prog 126 (con_impl_copyGuard impl_copyGuard)) : CtrOK Try.prog 58 (con_impl_Feel (impl_Feel_ impl_GuardOk impl_SenseOk impl_copyGuard )) :=
  fun_ok0 (c := Try.f58.body.getD .skip) (con_impl_Feel (impl_Feel_ impl_GuardOk impl_SenseOk impl_copyGuard )) (gOf [(50, con_impl_GuardOk impl_GuardOk), (74, con_impl_SenseOk impl_SenseOk), (126, con_impl_copyGuard impl_copyGuard)]) rfl Try.func58 rfl rfl rfl (gOf_cons h50 (gOf_cons h74 (gOf_cons h126 (gOf_nil)))) (by kernel_rfl) (by kernel_rfl)
theorem ok_impl_Feel : CtrOK Try.prog 58 (con_impl_Feel fun _ => g_impl_Feel) := (okp_impl_Feel _ _ _ ok_impl_GuardOk ok_impl_SenseOk ok_impl_copyGuard).nice e_impl_Feel

def lp_impl_isSeen_2 : LP := ⟨[(5, false, [.sl 0]), (6, false, [.int .i64]), (7, false, [.int .i64])], [.ro (.pair (.int .i64) (.pair (.int .i64) (.pair (.int .i64) (.int .i64)))) 0], 1⟩
theorem okp_impl_isSeen : CtrOK Try.prog 59 (con_impl_isSeen (impl_isSeen_ )) :=
  fun_ok (c := Try.f59.body.getD .skip) (con_impl_isSeen (impl_isSeen_ )) (gOf []) [] [⟨2, lp_impl_isSeen_2, impl_isSeen_L2 ⟩] rfl Try.func59 rfl rfl rfl (gOf_nil) (by kernel_rfl) [2] 1 (by kernel_rfl) (by kernel_rfl)
    (fun x => .cons (⟨2, lp_impl_isSeen_2, impl_isSeen_L2 ⟩ : Lab (OKs [.v false [.bool]])) rfl rfl (by kernel_rfl) (by kernel_rfl) (.nil _))
theorem ok_impl_isSeen : CtrOK Try.prog 59 (con_impl_isSeen fun _ => g_impl_isSeen) := (okp_impl_isSeen  ).nice e_impl_isSeen

theorem okp_impl_OrderOk (impl_within : Nat → Int × Int × Int → Option (Bool)) (h122 : CtrOK Try.prog 122 (con_impl_within impl_within)) : CtrOK Try.prog 131 (con_impl_OrderOk (impl_OrderOk_ impl_within )) :=
  fun_ok0 (c := Try.f131.body.getD .skip) (con_impl_OrderOk (impl_OrderOk_ impl_within )) (gOf [(122, con_impl_within impl_within)]) rfl Try.func131 rfl rfl rfl (gOf_cons h122 (gOf_nil)) (by kernel_rfl) (by kernel_rfl)
theorem ok_impl_OrderOk : CtrOK Try.prog 131 (con_impl_OrderOk fun _ => g_impl_OrderOk) := (okp_impl_OrderOk _ ok_impl_within).nice e_impl_OrderOk

def lp_impl_ReadVar_5 : LP := ⟨[(0, false, [.str]), (1, false, [.int .i64]), (7, false, [.int .i64]), (8, false, [.int .i64])], [], 0⟩
theorem okp_impl_ReadVar (impl_within : Nat → Int × Int × Int → Option (Bool)) (h122 : CtrOK Try.prog 122 (con_impl_within impl_within)) : CtrOK Try.prog 187 (con_impl_ReadVar (impl_ReadVar_ impl_within )) :=
  fun_ok (c := Try.f187.body.getD .skip) (con_impl_ReadVar (impl_ReadVar_ impl_within )) (gOf [(122, con_impl_within impl_within)]) [] [⟨5, lp_impl_ReadVar_5, impl_ReadVar_L5 impl_within ⟩] rfl Try.func187 rfl rfl rfl (gOf_cons h122 (gOf_nil)) (by kernel_rfl) [5] 0 (by kernel_rfl) (by kernel_rfl)
    (fun x => .cons (⟨5, lp_impl_ReadVar_5, impl_ReadVar_L5 impl_within ⟩ : Lab (OKs [.v false [.int .i64], .v false [.int .i64], .v false [.bool]])) rfl rfl (by kernel_rfl) (by kernel_rfl) (.nil _))
theorem ok_impl_ReadVar : CtrOK Try.prog 187 (con_impl_ReadVar fun _ => g_impl_ReadVar) := (okp_impl_ReadVar _ ok_impl_within).nice e_impl_ReadVar

theorem okp_impl_reader__number (impl_ReadVar : Nat → ByteArray × Int → Option (Int × Int × Bool)) (h187 : CtrOK Try.prog 187 (con_impl_ReadVar impl_ReadVar)) : CtrOK Try.prog 130 (con_impl_reader__number (impl_reader__number_ impl_ReadVar )) :=
  fun_ok0 (c := Try.f130.body.getD .skip) (con_impl_reader__number (impl_reader__number_ impl_ReadVar )) (gOf [(187, con_impl_ReadVar impl_ReadVar)]) rfl Try.func130 rfl rfl rfl (gOf_cons h187 (gOf_nil)) (by kernel_rfl) (by kernel_rfl)
theorem ok_impl_reader__number : CtrOK Try.prog 130 (con_impl_reader__number fun _ => g_impl_reader__number) := (okp_impl_reader__number _ ok_impl_ReadVar).nice e_impl_reader__number

def lp_impl_highFirst_3 : LP := ⟨[(0, false, [.int .i64]), (5, false, [.sl 0]), (6, false, [.int .i64])], [.row (.int .u8) 5], 0⟩
theorem okp_impl_highFirst : CtrOK Try.prog 232 (con_impl_highFirst (impl_highFirst_ )) :=
  fun_ok (c := Try.f232.body.getD .skip) (con_impl_highFirst (impl_highFirst_ )) (gOf []) [] [⟨3, lp_impl_highFirst_3, impl_highFirst_L3 ⟩] rfl Try.func232 rfl rfl rfl (gOf_nil) (by kernel_rfl) [3] 0 (by kernel_rfl) (by kernel_rfl)
    (fun x => .cons (⟨3, lp_impl_highFirst_3, impl_highFirst_L3 ⟩ : Lab (OKs [.v false [.str]])) rfl rfl (by kernel_rfl) (by kernel_rfl) (.nil _))
theorem ok_impl_highFirst : CtrOK Try.prog 232 (con_impl_highFirst fun _ => g_impl_highFirst) := (okp_impl_highFirst  ).nice e_impl_highFirst

def lp_impl_SumMore_2 : LP := ⟨[(0, false, [.int .u32]), (1, false, [.str]), (5, false, [.int .i64])], [], 0⟩
def lp_impl_SumMore_6 : LP := ⟨[(0, false, [.int .u32]), (1, false, [.str]), (5, false, [.int .i64]), (19, false, [.int .i64])], [], 0⟩
theorem okp_impl_SumMore : CtrOK Try.prog 248 (con_impl_SumMore (impl_SumMore_ )) :=
  fun_ok (c := Try.f248.body.getD .skip) (con_impl_SumMore (impl_SumMore_ )) (gOf []) [] [⟨2, lp_impl_SumMore_2, impl_SumMore_L2 ⟩, ⟨6, lp_impl_SumMore_6, impl_SumMore_L6 ⟩] rfl Try.func248 rfl rfl rfl (gOf_nil) (by kernel_rfl) [2, 6] 0 (by kernel_rfl) (by kernel_rfl)
    (fun x => .cons (⟨2, lp_impl_SumMore_2, impl_SumMore_L2 ⟩ : Lab (OKs [.v false [.int .u32]])) rfl rfl (by kernel_rfl) (by kernel_rfl) (.cons (⟨6, lp_impl_SumMore_6, impl_SumMore_L6 ⟩ : Lab (OKs [.v false [.int .u32]])) rfl rfl (by kernel_rfl) (by kernel_rfl) (.nil _)))
theorem ok_impl_SumMore : CtrOK Try.prog 248 (con_impl_SumMore fun _ => g_impl_SumMore) := (okp_impl_SumMore  ).nice e_impl_SumMore

theorem okp_impl_SumOf (impl_SumMore : Nat → Int × ByteArray → Option (Int)) (h248 : CtrOK Try.prog 248 (con_impl_SumMore impl_SumMore)) : CtrOK Try.prog 233 (con_impl_SumOf (impl_SumOf_ impl_SumMore )) :=
  fun_ok0 (c := Try.f233.body.getD .skip) (con_impl_SumOf (impl_SumOf_ impl_SumMore )) (gOf [(248, con_impl_SumMore impl_SumMore)]) rfl Try.func233 rfl rfl rfl (gOf_cons h248 (gOf_nil)) (by kernel_rfl) (by kernel_rfl)
theorem ok_impl_SumOf : CtrOK Try.prog 233 (con_impl_SumOf fun _ => g_impl_SumOf) := (okp_impl_SumOf _ ok_impl_SumMore).nice e_impl_SumOf

theorem okp_impl_Sealed (impl_SumOf : Nat → ByteArray → Option (Int)) (impl_highFirst : Nat → Int × Int → Option (ByteArray)) (h233 : CtrOK Try.prog 233 (con_impl_SumOf impl_SumOf)) (h232 : CtrOK Try.prog 232 (con_impl_highFirst impl_highFirst)) : CtrOK Try.prog 186 (con_impl_Sealed (impl_Sealed_ impl_SumOf impl_highFirst )) :=
  fun_ok0 (c := Try.f186.body.getD .skip) (con_impl_Sealed (impl_Sealed_ impl_SumOf impl_highFirst )) (gOf [(233, con_impl_SumOf impl_SumOf), (232, con_impl_highFirst impl_highFirst)]) rfl Try.func186 rfl rfl rfl (gOf_cons h233 (gOf_cons h232 (gOf_nil))) (by kernel_rfl) (by kernel_rfl)
theorem ok_impl_Sealed : CtrOK Try.prog 186 (con_impl_Sealed fun _ => g_impl_Sealed) := (okp_impl_Sealed _ _ ok_impl_SumOf ok_impl_highFirst).nice e_impl_Sealed

theorem okp_impl_Unsealed (impl_Sealed : Nat → ByteArray → Option (ByteArray × Bool)) (h186 : CtrOK Try.prog 186 (con_impl_Sealed impl_Sealed)) : CtrOK Try.prog 129 (con_impl_Unsealed (impl_Unsealed_ impl_Sealed )) :=
  fun_ok0 (c := Try.f129.body.getD .skip) (con_impl_Unsealed (impl_Unsealed_ impl_Sealed )) (gOf [(186, con_impl_Sealed impl_Sealed)]) rfl Try.func129 rfl rfl rfl (gOf_cons h186 (gOf_nil)) (by kernel_rfl) (by kernel_rfl)
theorem ok_impl_Unsealed : CtrOK Try.prog 129 (con_impl_Unsealed fun _ => g_impl_Unsealed) := (okp_impl_Unsealed _ ok_impl_Sealed).nice e_impl_Unsealed

theorem okp_impl_ReadOrder (impl_OrderOk : Nat → (Int × Int × Int × Int) → Option (Bool)) (impl_Unsealed : Nat → ByteArray → Option (ByteArray × Bool)) (impl_reader__number : Nat → (ByteArray × Int × Bool) → Option (Int × (ByteArray × Int × Bool))) (h131 : CtrOK Try.prog 131 (con_impl_OrderOk impl_OrderOk)) (h129 : CtrOK Try.prog 129 (con_impl_Unsealed impl_Unsealed)) (h130 : CtrOK Try.prog 130 (con_impl_reader__number impl_reader__number)) : CtrOK Try.prog 57 (con_impl_ReadOrder (impl_ReadOrder_ impl_OrderOk impl_Unsealed impl_reader__number )) :=
  fun_ok0 (c := Try.f57.body.getD .skip) (con_impl_ReadOrder (impl_ReadOrder_ impl_OrderOk impl_Unsealed impl_reader__number )) (gOf [(131, con_impl_OrderOk impl_OrderOk), (129, con_impl_Unsealed impl_Unsealed), (130, con_impl_reader__number impl_reader__number)]) rfl Try.func57 rfl rfl rfl (gOf_cons h131 (gOf_cons h129 (gOf_cons h130 (gOf_nil)))) (by kernel_rfl) (by kernel_rfl)
theorem ok_impl_ReadOrder : CtrOK Try.prog 57 (con_impl_ReadOrder fun _ => g_impl_ReadOrder) := (okp_impl_ReadOrder _ _ _ ok_impl_OrderOk ok_impl_Unsealed ok_impl_reader__number).nice e_impl_ReadOrder

theorem okp_impl_Take (impl_OrderOk : Nat → (Int × Int × Int × Int) → Option (Bool)) (impl_PumpOk : Nat → (Int × Int × Int × Int × Int × Int × Int × Int) → Option (Bool)) (h131 : CtrOK Try.prog 131 (con_impl_OrderOk impl_OrderOk)) (h49 : CtrOK Try.prog 49 (con_impl_PumpOk impl_PumpOk)) : CtrOK Try.prog 128 (con_impl_Take (impl_Take_ impl_OrderOk impl_PumpOk )) :=
  fun_ok0 (c := Try.f128.body.getD .skip) (con_impl_Take (impl_Take_ impl_OrderOk impl_PumpOk )) (gOf [(131, con_impl_OrderOk impl_OrderOk), (49, con_impl_PumpOk impl_PumpOk)]) rfl Try.func128 rfl rfl rfl (gOf_cons h131 (gOf_cons h49 (gOf_nil))) (by kernel_rfl) (by kernel_rfl)
theorem ok_impl_Take : CtrOK Try.prog 128 (con_impl_Take fun _ => g_impl_Take) := (okp_impl_Take _ _ ok_impl_OrderOk ok_impl_PumpOk).nice e_impl_Take

theorem okp_impl_Device__order (impl_Take : Nat → (Int × Int × Int × Int × Int × Int × Int × Int) × (Int × Int × Int × Int) → Option ((Int × Int × Int × Int × Int × Int × Int × Int) × Bool)) (h128 : CtrOK Try.prog 128 (con_impl_Take impl_Take)) : CtrOK Try.prog 56 (con_impl_Device__order (impl_Device__order_ impl_Take )) :=
  fun_ok0 (c := Try.f56.body.getD .skip) (con_impl_Device__order (impl_Device__order_ impl_Take )) (gOf [(128, con_impl_Take impl_Take)]) rfl Try.func56 rfl rfl rfl (gOf_cons h128 (gOf_nil)) (by kernel_rfl) (by kernel_rfl)
theorem ok_impl_Device__order : CtrOK Try.prog 56 (con_impl_Device__order fun _ => g_impl_Device__order) := (okp_impl_Device__order _ ok_impl_Take).nice e_impl_Device__order

theorem okp_impl_MenuNew : CtrOK Try.prog 64 (con_impl_MenuNew (impl_MenuNew_ )) :=
  fun_ok0 (c := Try.f64.body.getD .skip) (con_impl_MenuNew (impl_MenuNew_ )) (gOf []) rfl Try.func64 rfl rfl rfl (gOf_nil) (by kernel_rfl) (by kernel_rfl)
theorem ok_impl_MenuNew : CtrOK Try.prog 64 (con_impl_MenuNew fun _ => g_impl_MenuNew) := (okp_impl_MenuNew  ).nice e_impl_MenuNew

def lp_impl_typed_3 : LP := ⟨[(0, false, [.str]), (3, false, [.int .i64]), (6, false, [.int .i64]), (7, false, [.int .i64])], [], 0⟩
theorem okp_impl_typed : CtrOK Try.prog 247 (con_impl_typed (impl_typed_ )) :=
  fun_ok (c := Try.f247.body.getD .skip) (con_impl_typed (impl_typed_ )) (gOf []) [] [⟨3, lp_impl_typed_3, impl_typed_L3 ⟩] rfl Try.func247 rfl rfl rfl (gOf_nil) (by kernel_rfl) [3] 0 (by kernel_rfl) (by kernel_rfl)
    (fun x => .cons (⟨3, lp_impl_typed_3, impl_typed_L3 ⟩ : Lab (OKs [.v false [.int .i64]])) rfl rfl (by kernel_rfl) (by kernel_rfl) (.nil _))
theorem ok_impl_typed : CtrOK Try.prog 247 (con_impl_typed fun _ => g_impl_typed) := (okp_impl_typed  ).nice e_impl_typed

theorem okp_impl_Menu__enter (impl_MenuNew : Nat → Unit → Option ((Int × Bool × Int × Int × ByteArray))) (impl_OrderOk : Nat → (Int × Int × Int × Int) → Option (Bool)) (impl_typed : Nat → ByteArray → Option (Int)) (h64 : CtrOK Try.prog 64 (con_impl_MenuNew impl_MenuNew)) (h131 : CtrOK Try.prog 131 (con_impl_OrderOk impl_OrderOk)) (h247 : CtrOK Try.prog 247 (con_impl_typed impl_typed)) : CtrOK Try.prog 231 (con_impl_Menu__enter (impl_Menu__enter_ impl_MenuNew impl_OrderOk impl_typed )) :=
  fun_ok0 (c := Try.f231.body.getD .skip) (con_impl_Menu__enter (impl_Menu__enter_ impl_MenuNew impl_OrderOk impl_typed )) (gOf [(64, con_impl_MenuNew impl_MenuNew), (131, con_impl_OrderOk impl_OrderOk), (247, con_impl_typed impl_typed)]) rfl Try.func231 rfl rfl rfl (gOf_cons h64 (gOf_cons h131 (gOf_cons h247 (gOf_nil)))) (by kernel_rfl) (by kernel_rfl)
theorem ok_impl_Menu__enter : CtrOK Try.prog 231 (con_impl_Menu__enter fun _ => g_impl_Menu__enter) := (okp_impl_Menu__enter _ _ _ ok_impl_MenuNew ok_impl_OrderOk ok_impl_typed).nice e_impl_Menu__enter

theorem okp_impl_Menu__top : CtrOK Try.prog 230 (con_impl_Menu__top (impl_Menu__top_ )) :=
  fun_ok0 (c := Try.f230.body.getD .skip) (con_impl_Menu__top (impl_Menu__top_ )) (gOf []) rfl Try.func230 rfl rfl rfl (gOf_nil) (by kernel_rfl) (by kernel_rfl)
theorem ok_impl_Menu__top : CtrOK Try.prog 230 (con_impl_Menu__top fun _ => g_impl_Menu__top) := (okp_impl_Menu__top  ).nice e_impl_Menu__top

def lp_impl_MenuOk_2 : LP := ⟨[(1, false, [.ptr 0 0]), (6, false, [.int .i64]), (7, false, [.int .i64])], [.box [.int .i64, .bool, .int .i64, .int .i64, .str] 40], 0⟩
theorem okp_impl_MenuOk (impl_MenuNew : Nat → Unit → Option ((Int × Bool × Int × Int × ByteArray))) (impl_within : Nat → Int × Int × Int → Option (Bool)) (h64 : CtrOK Try.prog 64 (con_impl_MenuNew impl_MenuNew)) (h122 : CtrOK Try.prog 122 (con_impl_within impl_within)) : CtrOK Try.prog 51 (con_impl_MenuOk (impl_MenuOk_ impl_MenuNew impl_within )) :=
  fun_ok (c := Try.f51.body.getD .skip) (con_impl_MenuOk (impl_MenuOk_ impl_MenuNew impl_within )) (gOf [(64, con_impl_MenuNew impl_MenuNew), (122, con_impl_within impl_within)]) [] [⟨2, lp_impl_MenuOk_2, impl_MenuOk_L2 impl_MenuNew impl_within ⟩] rfl Try.func51 rfl rfl rfl (gOf_cons h64 (gOf_cons h122 (gOf_nil))) (by kernel_rfl) [2] 0 (by kernel_rfl) (by kernel_rfl)
    (fun x => .cons (⟨2, lp_impl_MenuOk_2, impl_MenuOk_L2 impl_MenuNew impl_within ⟩ : Lab (OKs [.v false [.bool]])) rfl rfl (by kernel_rfl) (by kernel_rfl) (.nil _))
theorem ok_impl_MenuOk : CtrOK Try.prog 51 (con_impl_MenuOk fun _ => g_impl_MenuOk) := (okp_impl_MenuOk _ _ ok_impl_MenuNew ok_impl_within).nice e_impl_MenuOk

theorem okp_impl_Press (impl_MenuNew : Nat → Unit → Option ((Int × Bool × Int × Int × ByteArray))) (impl_MenuOk : Nat → (Int × Bool × Int × Int × ByteArray) → Option (Bool)) (impl_Menu__enter : Nat → (Int × Bool × Int × Int × ByteArray) → Option ((Int × Bool × Int × Int × ByteArray) × (Int × Int × Int × Int) × Bool)) (impl_Menu__top : Nat → (Int × Bool × Int × Int × ByteArray) × Int → Option ((Int × Bool × Int × Int × ByteArray) × (Int × Int × Int × Int) × Bool)) (impl_within : Nat → Int × Int × Int → Option (Bool)) (h64 : CtrOK Try.prog 64 (con_impl_MenuNew impl_MenuNew)) (h51 : CtrOK Try.prog 51 (con_impl_MenuOk impl_MenuOk)) (h231 : CtrOK Try.prog 231 (con_impl_Menu__enter impl_Menu__enter)) (h230 : CtrOK Try.prog 230 (con_impl_Menu__top impl_Menu__top)) (h122 : CtrOK Try.prog 122 (con_impl_within impl_within)) : CtrOK Try.prog 185 (con_impl_Press (impl_Press_ impl_MenuNew impl_MenuOk impl_Menu__enter impl_Menu__top impl_within )) :=
  fun_ok0 (c := Try.f185.body.getD .skip) (con_impl_Press (impl_Press_ impl_MenuNew impl_MenuOk impl_Menu__enter impl_Menu__top impl_within )) (gOf [(64, con_impl_MenuNew impl_MenuNew), (51, con_impl_MenuOk impl_MenuOk), (231, con_impl_Menu__enter impl_Menu__enter), (230, con_impl_Menu__top impl_Menu__top), (122, con_impl_within impl_within)]) rfl Try.func185 rfl rfl rfl (gOf_cons h64 (gOf_cons h51 (gOf_cons h231 (gOf_cons h230 (gOf_cons h122 (gOf_nil)))))) (by kernel_rfl) (by kernel_rfl)
theorem ok_impl_Press : CtrOK Try.prog 185 (con_impl_Press fun _ => g_impl_Press) := (okp_impl_Press _ _ _ _ _ ok_impl_MenuNew ok_impl_MenuOk ok_impl_Menu__enter ok_impl_Menu__top ok_impl_within).nice e_impl_Press

def lp_impl_PressAll_3 : LP := ⟨[(1, false, [.str]), (2, false, [.ptr 0 0]), (4, false, [.ptr 1 0]), (6, false, [.sl 2]), (13, false, [.int .i64]), (14, false, [.int .i64])], [.box [.int .i64, .bool, .int .i64, .int .i64, .str] 40, .box [.int .i64, .bool, .int .i64, .int .i64, .str] 40, .row (.pair (.int .i64) (.pair (.int .i64) (.pair (.int .i64) (.int .i64)))) 27], 0⟩
theorem okp_impl_PressAll (impl_Press : Nat → (Int × Bool × Int × Int × ByteArray) × Int → Option ((Int × Bool × Int × Int × ByteArray) × (Int × Int × Int × Int) × Bool)) (h185 : CtrOK Try.prog 185 (con_impl_Press impl_Press)) : CtrOK Try.prog 127 (con_impl_PressAll (impl_PressAll_ impl_Press )) :=
  fun_ok (c := Try.f127.body.getD .skip) (con_impl_PressAll (impl_PressAll_ impl_Press )) (gOf [(185, con_impl_Press impl_Press)]) [] [⟨3, lp_impl_PressAll_3, impl_PressAll_L3 impl_Press ⟩] rfl Try.func127 rfl rfl rfl (gOf_cons h185 (gOf_nil)) (by kernel_rfl) [3] 0 (by kernel_rfl) (by kernel_rfl)
    (fun x => .cons (⟨3, lp_impl_PressAll_3, impl_PressAll_L3 impl_Press ⟩ : Lab (OKs [.v true [.int .i64, .bool, .int .i64, .int .i64, .str], .v false [.own (.pair (.int .i64) (.pair (.int .i64) (.pair (.int .i64) (.int .i64)))) 27]])) rfl rfl (by kernel_rfl) (by kernel_rfl) (.nil _))
theorem ok_impl_PressAll : CtrOK Try.prog 127 (con_impl_PressAll fun _ => g_impl_PressAll) := (okp_impl_PressAll _ ok_impl_Press).nice e_impl_PressAll

theorem okp_impl_ordersOf (impl_PressAll : Nat → (Int × Bool × Int × Int × ByteArray) × ByteArray → Option ((Int × Bool × Int × Int × ByteArray) × ((List (Int × (Int × (Int × Int))))))) (impl_ReadOrder : Nat → ByteArray → Option ((Int × Int × Int × Int) × Bool)) (h127 : CtrOK Try.prog 127 (con_impl_PressAll impl_PressAll)) (h57 : CtrOK Try.prog 57 (con_impl_ReadOrder impl_ReadOrder)) : CtrOK Try.prog 55 (con_impl_ordersOf (impl_ordersOf_ impl_PressAll impl_ReadOrder )) :=
  fun_ok0 (c := Try.f55.body.getD .skip) (con_impl_ordersOf (impl_ordersOf_ impl_PressAll impl_ReadOrder )) (gOf [(127, con_impl_PressAll impl_PressAll), (57, con_impl_ReadOrder impl_ReadOrder)]) rfl Try.func55 rfl rfl rfl (gOf_cons h127 (gOf_cons h57 (gOf_nil))) (by kernel_rfl) (by kernel_rfl)
theorem ok_impl_ordersOf : CtrOK Try.prog 55 (con_impl_ordersOf fun _ => g_impl_ordersOf) := (okp_impl_ordersOf _ _ ok_impl_PressAll ok_impl_ReadOrder).nice e_impl_ordersOf

theorem okp_impl_InOk (impl_SenseOk : Nat → Int → Option (Bool)) (h74 : CtrOK Try.prog 74 (con_impl_SenseOk impl_SenseOk)) : CtrOK Try.prog 42 (con_impl_InOk (impl_InOk_ impl_SenseOk )) :=
  fun_ok0 (c := Try.f42.body.getD .skip) (con_impl_InOk (impl_InOk_ impl_SenseOk )) (gOf [(74, con_impl_SenseOk impl_SenseOk)]) rfl Try.func42 rfl rfl rfl (gOf_cons h74 (gOf_nil)) (by kernel_rfl) (by kernel_rfl)
theorem ok_impl_InOk : CtrOK Try.prog 42 (con_impl_InOk fun _ => g_impl_InOk) := (okp_impl_InOk _ ok_impl_SenseOk).nice e_impl_InOk

theorem okp_impl_isNumber (impl_within : Nat → Int × Int × Int → Option (Bool)) (h122 : CtrOK Try.prog 122 (con_impl_within impl_within)) : CtrOK Try.prog 52 (con_impl_isNumber (impl_isNumber_ impl_within )) :=
  fun_ok0 (c := Try.f52.body.getD .skip) (con_impl_isNumber (impl_isNumber_ impl_within )) (gOf [(122, con_impl_within impl_within)]) rfl Try.func52 rfl rfl rfl (gOf_cons h122 (gOf_nil)) (by kernel_rfl) (by kernel_rfl)
theorem ok_impl_isNumber : CtrOK Try.prog 52 (con_impl_isNumber fun _ => g_impl_isNumber) := (okp_impl_isNumber _ ok_impl_within).nice e_impl_isNumber

theorem okp_impl_DeviceOk (impl_GuardOk : Nat → (List Int × Int) → Option (Bool)) (impl_MenuOk : Nat → (Int × Bool × Int × Int × ByteArray) → Option (Bool)) (impl_PumpOk : Nat → (Int × Int × Int × Int × Int × Int × Int × Int) → Option (Bool)) (impl_isNumber : Nat → Int → Option (Bool)) (h50 : CtrOK Try.prog 50 (con_impl_GuardOk impl_GuardOk)) (h51 : CtrOK Try.prog 51 (con_impl_MenuOk impl_MenuOk)) (h49 : CtrOK Try.prog 49 (con_impl_PumpOk impl_PumpOk)) (h52 : CtrOK Try.prog 52 (con_impl_isNumber impl_isNumber)) : CtrOK Try.prog 14 (con_impl_DeviceOk (impl_DeviceOk_ impl_GuardOk impl_MenuOk impl_PumpOk impl_isNumber )) :=
  fun_ok0 (c := Try.f14.body.getD .skip) (con_impl_DeviceOk (impl_DeviceOk_ impl_GuardOk impl_MenuOk impl_PumpOk impl_isNumber )) (gOf [(50, con_impl_GuardOk impl_GuardOk), (51, con_impl_MenuOk impl_MenuOk), (49, con_impl_PumpOk impl_PumpOk), (52, con_impl_isNumber impl_isNumber)]) rfl Try.func14 rfl rfl rfl (gOf_cons h50 (gOf_cons h51 (gOf_cons h49 (gOf_cons h52 (gOf_nil))))) (by kernel_rfl) (by kernel_rfl)
theorem ok_impl_DeviceOk : CtrOK Try.prog 14 (con_impl_DeviceOk fun _ => g_impl_DeviceOk) := (okp_impl_DeviceOk _ _ _ _ ok_impl_GuardOk ok_impl_MenuOk ok_impl_PumpOk ok_impl_isNumber).nice e_impl_DeviceOk

theorem okp_impl_copyDevice (impl_copyGuard : Nat → (List Int × Int) → Option ((List Int × Int))) (h126 : CtrOK Try.prog 126 (con_impl_copyGuard impl_copyGuard)) : CtrOK Try.prog 54 (con_impl_copyDevice (impl_copyDevice_ impl_copyGuard )) :=
  fun_ok0 (c := Try.f54.body.getD .skip) (con_impl_copyDevice (impl_copyDevice_ impl_copyGuard )) (gOf [(126, con_impl_copyGuard impl_copyGuard)]) rfl Try.func54 rfl rfl rfl (gOf_cons h126 (gOf_nil)) (by kernel_rfl) (by kernel_rfl)
theorem ok_impl_copyDevice : CtrOK Try.prog 54 (con_impl_copyDevice fun _ => g_impl_copyDevice) := (okp_impl_copyDevice _ ok_impl_copyGuard).nice e_impl_copyDevice

def lp_impl_TickDevice_7 : LP := ⟨[(3, false, [.ptr 2 0]), (4, false, [.ptr 3 0]), (5, false, [.ptr 4 0]), (7, false, [.sl 5]), (44, false, [.sl 5]), (45, false, [.int .i64]), (46, false, [.int .i64])], [.dead, .dead, .box [.int .i64, .str, .str] 31, .box [.int .i64, .int .i64, .int .i64, .int .i64, .int .i64, .int .i64, .int .i64, .int .i64, .sl 6, .int .i64, .int .i64, .bool, .int .i64, .int .i64, .str, .sl 7, .int .i64] 43, .box [.int .i64, .int .i64, .int .i64, .int .i64, .int .i64, .int .i64, .int .i64, .int .i64, .sl 8, .int .i64, .int .i64, .bool, .int .i64, .int .i64, .str, .sl 9, .int .i64] 43, .row (.pair (.int .i64) (.pair (.int .i64) (.pair (.int .i64) (.int .i64)))) 27, .row (.int .i64) 0, .row (.int .i64) 0, .row (.int .i64) 3, .row (.pair (.int .i64) (.pair (.int .i64) (.int .i64))) 96], 2⟩
theorem okp_impl_TickDevice (impl_Allow : Nat → (List Int × Int) × Int → Option (Int)) (impl_DeviceOk : Nat → (Int × Int × Int × Int × Int × Int × Int × Int × List Int × Int × Int × Bool × Int × Int × ByteArray × (List (Int × (Int × Int))) × Int) → Option (Bool)) (impl_Device__order : Nat → (Int × Int × Int × Int × Int × Int × Int × Int × List Int × Int × Int × Bool × Int × Int × ByteArray × (List (Int × (Int × Int))) × Int) × (Int × Int × Int × Int) → Option (Bool × (Int × Int × Int × Int × Int × Int × Int × Int × Unit × Int × Int × Bool × Int × Int × ByteArray × Unit × Int))) (impl_Feel : Nat → (List Int × Int) × Int × Bool → Option ((List Int × Int))) (impl_Give : Nat → (Int × Int × Int × Int × Int × Int × Int × Int) × Int → Option ((Int × Int × Int × Int × Int × Int × Int × Int))) (impl_InOk : Nat → (Int × ByteArray × ByteArray) → Option (Bool)) (impl_Pass : Nat → (List Int × Int) × Int → Option ((List Int × Int))) (impl_ReadOrder : Nat → ByteArray → Option ((Int × Int × Int × Int) × Bool)) (impl_Wants : Nat → (Int × Int × Int × Int × Int × Int × Int × Int) → Option (Int)) (impl_copyDevice : Nat → (Int × Int × Int × Int × Int × Int × Int × Int × List Int × Int × Int × Bool × Int × Int × ByteArray × (List (Int × (Int × Int))) × Int) → Option ((Int × Int × Int × Int × Int × Int × Int × Int × List Int × Int × Int × Bool × Int × Int × ByteArray × (List (Int × (Int × Int))) × Int))) (impl_isSeen : Nat → ((List (Int × (Int × (Int × Int))))) → Option (Bool)) (impl_ordersOf : Nat → (Int × Bool × Int × Int × ByteArray) × (Int × ByteArray × ByteArray) → Option ((Int × Bool × Int × Int × ByteArray) × ((List (Int × (Int × (Int × Int))))))) (h60 : CtrOK Try.prog 60 (con_impl_Allow impl_Allow)) (h14 : CtrOK Try.prog 14 (con_impl_DeviceOk impl_DeviceOk)) (h56 : CtrOK Try.prog 56 (con_impl_Device__order impl_Device__order)) (h58 : CtrOK Try.prog 58 (con_impl_Feel impl_Feel)) (h62 : CtrOK Try.prog 62 (con_impl_Give impl_Give)) (h42 : CtrOK Try.prog 42 (con_impl_InOk impl_InOk)) (h63 : CtrOK Try.prog 63 (con_impl_Pass impl_Pass)) (h57 : CtrOK Try.prog 57 (con_impl_ReadOrder impl_ReadOrder)) (h61 : CtrOK Try.prog 61 (con_impl_Wants impl_Wants)) (h54 : CtrOK Try.prog 54 (con_impl_copyDevice impl_copyDevice)) (h59 : CtrOK Try.prog 59 (con_impl_isSeen impl_isSeen)) (h55 : CtrOK Try.prog 55 (con_impl_ordersOf impl_ordersOf)) : CtrOK Try.prog 16 (con_impl_TickDevice (impl_TickDevice_ impl_Allow impl_DeviceOk impl_Device__order impl_Feel impl_Give impl_InOk impl_Pass impl_ReadOrder impl_Wants impl_copyDevice impl_isSeen impl_ordersOf )) :=
  fun_ok (c := Try.f16.body.getD .skip) (con_impl_TickDevice (impl_TickDevice_ impl_Allow impl_DeviceOk impl_Device__order impl_Feel impl_Give impl_InOk impl_Pass impl_ReadOrder impl_Wants impl_copyDevice impl_isSeen impl_ordersOf )) (gOf [(60, con_impl_Allow impl_Allow), (14, con_impl_DeviceOk impl_DeviceOk), (56, con_impl_Device__order impl_Device__order), (58, con_impl_Feel impl_Feel), (62, con_impl_Give impl_Give), (42, con_impl_InOk impl_InOk), (63, con_impl_Pass impl_Pass), (57, con_impl_ReadOrder impl_ReadOrder), (61, con_impl_Wants impl_Wants), (54, con_impl_copyDevice impl_copyDevice), (59, con_impl_isSeen impl_isSeen), (55, con_impl_ordersOf impl_ordersOf)]) [] [⟨7, lp_impl_TickDevice_7, impl_TickDevice_L7 impl_Allow impl_DeviceOk impl_Device__order impl_Feel impl_Give impl_InOk impl_Pass impl_ReadOrder impl_Wants impl_copyDevice impl_isSeen impl_ordersOf ⟩] rfl Try.func16 rfl rfl rfl (gOf_cons h60 (gOf_cons h14 (gOf_cons h56 (gOf_cons h58 (gOf_cons h62 (gOf_cons h42 (gOf_cons h63 (gOf_cons h57 (gOf_cons h61 (gOf_cons h54 (gOf_cons h59 (gOf_cons h55 (gOf_nil))))))))))))) (by kernel_rfl) [7] 2 (by kernel_rfl) (by kernel_rfl)
    (fun x => .cons (⟨7, lp_impl_TickDevice_7, impl_TickDevice_L7 impl_Allow impl_DeviceOk impl_Device__order impl_Feel impl_Give impl_InOk impl_Pass impl_ReadOrder impl_Wants impl_copyDevice impl_isSeen impl_ordersOf ⟩ : Lab (OKs [.v true [.int .i64, .int .i64, .int .i64, .int .i64, .int .i64, .int .i64, .int .i64, .int .i64, .own (.int .i64) 3, .int .i64, .int .i64, .bool, .int .i64, .int .i64, .str, .own (.pair (.int .i64) (.pair (.int .i64) (.int .i64))) 96, .int .i64]])) rfl rfl (by kernel_rfl) (by kernel_rfl) (.nil _))
theorem ok_impl_TickDevice : CtrOK Try.prog 16 (con_impl_TickDevice fun _ => g_impl_TickDevice) := (okp_impl_TickDevice _ _ _ _ _ _ _ _ _ _ _ _ ok_impl_Allow ok_impl_DeviceOk ok_impl_Device__order ok_impl_Feel ok_impl_Give ok_impl_InOk ok_impl_Pass ok_impl_ReadOrder ok_impl_Wants ok_impl_copyDevice ok_impl_isSeen ok_impl_ordersOf).nice e_impl_TickDevice

theorem okp_laws_turned : CtrOK Try.prog 19 (con_laws_turned (laws_turned_ )) :=
  fun_ok0 (c := Try.f19.body.getD .skip) (con_laws_turned (laws_turned_ )) (gOf []) rfl Try.func19 rfl rfl rfl (gOf_nil) (by kernel_rfl) (by kernel_rfl)
theorem ok_laws_turned : CtrOK Try.prog 19 (con_laws_turned fun _ => g_laws_turned) := (okp_laws_turned  ).nice e_laws_turned

theorem okp_impl_DeviceNew (impl_MenuNew : Nat → Unit → Option ((Int × Bool × Int × Int × ByteArray))) (impl_PumpNew : Nat → Unit → Option ((Int × Int × Int × Int × Int × Int × Int × Int))) (h64 : CtrOK Try.prog 64 (con_impl_MenuNew impl_MenuNew)) (h21 : CtrOK Try.prog 21 (con_impl_PumpNew impl_PumpNew)) : CtrOK Try.prog 17 (con_impl_DeviceNew (impl_DeviceNew_ impl_MenuNew impl_PumpNew )) :=
  fun_ok0 (c := Try.f17.body.getD .skip) (con_impl_DeviceNew (impl_DeviceNew_ impl_MenuNew impl_PumpNew )) (gOf [(64, con_impl_MenuNew impl_MenuNew), (21, con_impl_PumpNew impl_PumpNew)]) rfl Try.func17 rfl rfl rfl (gOf_cons h64 (gOf_cons h21 (gOf_nil))) (by kernel_rfl) (by kernel_rfl)
theorem ok_impl_DeviceNew : CtrOK Try.prog 17 (con_impl_DeviceNew fun _ => g_impl_DeviceNew) := (okp_impl_DeviceNew _ _ ok_impl_MenuNew ok_impl_PumpNew).nice e_impl_DeviceNew

theorem okp_spec_l01Figure : CtrOK Try.prog 65 (con_spec_l01Figure (spec_l01Figure_ )) :=
  fun_ok0 (c := Try.f65.body.getD .skip) (con_spec_l01Figure (spec_l01Figure_ )) (gOf []) rfl Try.func65 rfl rfl rfl (gOf_nil) (by kernel_rfl) (by kernel_rfl)
theorem ok_spec_l01Figure : CtrOK Try.prog 65 (con_spec_l01Figure fun _ => g_spec_l01Figure) := (okp_spec_l01Figure  ).nice e_spec_l01Figure

def lp_spec_Decimal_5 : LP := ⟨[(0, false, [.int .i64]), (3, false, [.bool]), (4, false, [.str])], [], 0⟩
theorem okp_spec_Decimal (spec_l01Figure : Nat → Int → Option (Int)) (h65 : CtrOK Try.prog 65 (con_spec_l01Figure spec_l01Figure)) : CtrOK Try.prog 18 (con_spec_Decimal (spec_Decimal_ spec_l01Figure )) :=
  fun_ok (c := Try.f18.body.getD .skip) (con_spec_Decimal (spec_Decimal_ spec_l01Figure )) (gOf [(65, con_spec_l01Figure spec_l01Figure)]) [] [⟨5, lp_spec_Decimal_5, spec_Decimal_L5 spec_l01Figure ⟩] rfl Try.func18 rfl rfl rfl (gOf_cons h65 (gOf_nil)) (by kernel_rfl) [5] 0 (by kernel_rfl) (by kernel_rfl)
    (fun x => .cons (⟨5, lp_spec_Decimal_5, spec_Decimal_L5 spec_l01Figure ⟩ : Lab (OKs [.v false [.str]])) rfl rfl (by kernel_rfl) (by kernel_rfl) (.nil _))
theorem ok_spec_Decimal : CtrOK Try.prog 18 (con_spec_Decimal fun _ => g_spec_Decimal) := (okp_spec_Decimal _ ok_spec_l01Figure).nice e_spec_Decimal

theorem okp_spec_l02Four : CtrOK Try.prog 120 (con_spec_l02Four (spec_l02Four_ )) :=
  fun_ok0 (c := Try.f120.body.getD .skip) (con_spec_l02Four (spec_l02Four_ )) (gOf []) rfl Try.func120 rfl rfl rfl (gOf_nil) (by kernel_rfl) (by kernel_rfl)
theorem ok_spec_l02Four : CtrOK Try.prog 120 (con_spec_l02Four fun _ => g_spec_l02Four) := (okp_spec_l02Four  ).nice e_spec_l02Four

def lp_spec_SumMore_2 : LP := ⟨[(0, false, [.int .u32]), (1, false, [.str]), (5, false, [.int .i64])], [], 0⟩
def lp_spec_SumMore_6 : LP := ⟨[(0, false, [.int .u32]), (1, false, [.str]), (5, false, [.int .i64]), (6, false, [.int .i64])], [], 0⟩
theorem okp_spec_SumMore : CtrOK Try.prog 184 (con_spec_SumMore (spec_SumMore_ )) :=
  fun_ok (c := Try.f184.body.getD .skip) (con_spec_SumMore (spec_SumMore_ )) (gOf []) [] [⟨2, lp_spec_SumMore_2, spec_SumMore_L2 ⟩, ⟨6, lp_spec_SumMore_6, spec_SumMore_L6 ⟩] rfl Try.func184 rfl rfl rfl (gOf_nil) (by kernel_rfl) [2, 6] 0 (by kernel_rfl) (by kernel_rfl)
    (fun x => .cons (⟨2, lp_spec_SumMore_2, spec_SumMore_L2 ⟩ : Lab (OKs [.v false [.int .u32]])) rfl rfl (by kernel_rfl) (by kernel_rfl) (.cons (⟨6, lp_spec_SumMore_6, spec_SumMore_L6 ⟩ : Lab (OKs [.v false [.int .u32]])) rfl rfl (by kernel_rfl) (by kernel_rfl) (.nil _)))
theorem ok_spec_SumMore : CtrOK Try.prog 184 (con_spec_SumMore fun _ => g_spec_SumMore) := (okp_spec_SumMore  ).nice e_spec_SumMore

theorem okp_spec_SumOf (spec_SumMore : Nat → Int × ByteArray → Option (Int)) (h184 : CtrOK Try.prog 184 (con_spec_SumMore spec_SumMore)) : CtrOK Try.prog 121 (con_spec_SumOf (spec_SumOf_ spec_SumMore )) :=
  fun_ok0 (c := Try.f121.body.getD .skip) (con_spec_SumOf (spec_SumOf_ spec_SumMore )) (gOf [(184, con_spec_SumMore spec_SumMore)]) rfl Try.func121 rfl rfl rfl (gOf_cons h184 (gOf_nil)) (by kernel_rfl) (by kernel_rfl)
theorem ok_spec_SumOf : CtrOK Try.prog 121 (con_spec_SumOf fun _ => g_spec_SumOf) := (okp_spec_SumOf _ ok_spec_SumMore).nice e_spec_SumOf

theorem okp_spec_Sealed (spec_SumOf : Nat → ByteArray → Option (Int)) (spec_l02Four : Nat → Int → Option (ByteArray)) (h121 : CtrOK Try.prog 121 (con_spec_SumOf spec_SumOf)) (h120 : CtrOK Try.prog 120 (con_spec_l02Four spec_l02Four)) : CtrOK Try.prog 47 (con_spec_Sealed (spec_Sealed_ spec_SumOf spec_l02Four )) :=
  fun_ok0 (c := Try.f47.body.getD .skip) (con_spec_Sealed (spec_Sealed_ spec_SumOf spec_l02Four )) (gOf [(121, con_spec_SumOf spec_SumOf), (120, con_spec_l02Four spec_l02Four)]) rfl Try.func47 rfl rfl rfl (gOf_cons h121 (gOf_cons h120 (gOf_nil))) (by kernel_rfl) (by kernel_rfl)
theorem ok_spec_Sealed : CtrOK Try.prog 47 (con_spec_Sealed fun _ => g_spec_Sealed) := (okp_spec_Sealed _ _ ok_spec_SumOf ok_spec_l02Four).nice e_spec_Sealed

def lp_spec_l01Var_2 : LP := ⟨[(0, false, [.int .i64]), (3, false, [.sl 0])], [.row (.int .u8) 5], 0⟩
theorem okp_spec_l01Var : CtrOK Try.prog 48 (con_spec_l01Var (spec_l01Var_ )) :=
  fun_ok (c := Try.f48.body.getD .skip) (con_spec_l01Var (spec_l01Var_ )) (gOf []) [] [⟨2, lp_spec_l01Var_2, spec_l01Var_L2 ⟩] rfl Try.func48 rfl rfl rfl (gOf_nil) (by kernel_rfl) [2] 0 (by kernel_rfl) (by kernel_rfl)
    (fun x => .cons (⟨2, lp_spec_l01Var_2, spec_l01Var_L2 ⟩ : Lab (OKs [.v false [.str]])) rfl rfl (by kernel_rfl) (by kernel_rfl) (.nil _))
theorem ok_spec_l01Var : CtrOK Try.prog 48 (con_spec_l01Var fun _ => g_spec_l01Var) := (okp_spec_l01Var  ).nice e_spec_l01Var

theorem okp_spec_l01In : CtrOK Try.prog 119 (con_spec_l01In (spec_l01In_ )) :=
  fun_ok0 (c := Try.f119.body.getD .skip) (con_spec_l01In (spec_l01In_ )) (gOf []) rfl Try.func119 rfl rfl rfl (gOf_nil) (by kernel_rfl) (by kernel_rfl)
theorem ok_spec_l01In : CtrOK Try.prog 119 (con_spec_l01In fun _ => g_spec_l01In) := (okp_spec_l01In  ).nice e_spec_l01In

theorem okp_spec_OrderOk (spec_l01In : Nat → Int × Int × Int → Option (Bool)) (h119 : CtrOK Try.prog 119 (con_spec_l01In spec_l01In)) : CtrOK Try.prog 46 (con_spec_OrderOk (spec_OrderOk_ spec_l01In )) :=
  fun_ok0 (c := Try.f46.body.getD .skip) (con_spec_OrderOk (spec_OrderOk_ spec_l01In )) (gOf [(119, con_spec_l01In spec_l01In)]) rfl Try.func46 rfl rfl rfl (gOf_cons h119 (gOf_nil)) (by kernel_rfl) (by kernel_rfl)
theorem ok_spec_OrderOk : CtrOK Try.prog 46 (con_spec_OrderOk fun _ => g_spec_OrderOk) := (okp_spec_OrderOk _ ok_spec_l01In).nice e_spec_OrderOk

theorem okp_spec_OrderText (spec_OrderOk : Nat → (Int × Int × Int × Int) → Option (Bool)) (spec_Sealed : Nat → ByteArray → Option (ByteArray × Bool)) (spec_l01Var : Nat → Int → Option (ByteArray)) (h46 : CtrOK Try.prog 46 (con_spec_OrderOk spec_OrderOk)) (h47 : CtrOK Try.prog 47 (con_spec_Sealed spec_Sealed)) (h48 : CtrOK Try.prog 48 (con_spec_l01Var spec_l01Var)) : CtrOK Try.prog 12 (con_spec_OrderText (spec_OrderText_ spec_OrderOk spec_Sealed spec_l01Var )) :=
  fun_ok0 (c := Try.f12.body.getD .skip) (con_spec_OrderText (spec_OrderText_ spec_OrderOk spec_Sealed spec_l01Var )) (gOf [(46, con_spec_OrderOk spec_OrderOk), (47, con_spec_Sealed spec_Sealed), (48, con_spec_l01Var spec_l01Var)]) rfl Try.func12 rfl rfl rfl (gOf_cons h46 (gOf_cons h47 (gOf_cons h48 (gOf_nil)))) (by kernel_rfl) (by kernel_rfl)
theorem ok_spec_OrderText : CtrOK Try.prog 12 (con_spec_OrderText fun _ => g_spec_OrderText) := (okp_spec_OrderText _ _ _ ok_spec_OrderOk ok_spec_Sealed ok_spec_l01Var).nice e_spec_OrderText

theorem okp_spec_l01Byte : CtrOK Try.prog 44 (con_spec_l01Byte (spec_l01Byte_ )) :=
  fun_ok0 (c := Try.f44.body.getD .skip) (con_spec_l01Byte (spec_l01Byte_ )) (gOf []) rfl Try.func44 rfl rfl rfl (gOf_nil) (by kernel_rfl) (by kernel_rfl)
theorem ok_spec_l01Byte : CtrOK Try.prog 44 (con_spec_l01Byte fun _ => g_spec_l01Byte) := (okp_spec_l01Byte  ).nice e_spec_l01Byte

theorem okp_spec_l01Below (spec_l01Byte : Nat → (List Int × Int × Int) → Option (Int × (Unit × Int × Int))) (h44 : CtrOK Try.prog 44 (con_spec_l01Byte spec_l01Byte)) : CtrOK Try.prog 45 (con_spec_l01Below (spec_l01Below_ spec_l01Byte )) :=
  fun_ok0 (c := Try.f45.body.getD .skip) (con_spec_l01Below (spec_l01Below_ spec_l01Byte )) (gOf [(44, con_spec_l01Byte spec_l01Byte)]) rfl Try.func45 rfl rfl rfl (gOf_cons h44 (gOf_nil)) (by kernel_rfl) (by kernel_rfl)
theorem ok_spec_l01Below : CtrOK Try.prog 45 (con_spec_l01Below fun _ => g_spec_l01Below) := (okp_spec_l01Below _ ok_spec_l01Byte).nice e_spec_l01Below

def lp_spec_l01New_3 : LP := ⟨[(0, false, [.sl 0]), (3, false, [.int .i64]), (4, false, [.int .i64])], [.ro (.int .u8) 0], 1⟩
theorem okp_spec_l01New : CtrOK Try.prog 43 (con_spec_l01New (spec_l01New_ )) :=
  fun_ok (c := Try.f43.body.getD .skip) (con_spec_l01New (spec_l01New_ )) (gOf []) [] [⟨3, lp_spec_l01New_3, spec_l01New_L3 ⟩] rfl Try.func43 rfl rfl rfl (gOf_nil) (by kernel_rfl) [3] 1 (by kernel_rfl) (by kernel_rfl)
    (fun x => .cons (⟨3, lp_spec_l01New_3, spec_l01New_L3 ⟩ : Lab (OKs [.box [.al 0 0, .int .i64, .int .i64] 179])) rfl rfl (by kernel_rfl) (by kernel_rfl) (.nil _))
theorem ok_spec_l01New : CtrOK Try.prog 43 (con_spec_l01New fun _ => g_spec_l01New) := (okp_spec_l01New  ).nice e_spec_l01New

def lp_spec_DrawPlaces_5 : LP := ⟨[(3, false, [.ptr 1 0]), (4, false, [.sl 2]), (5, false, [.int .i64])], [.ro (.int .u8) 0, .box [.sl 0, .int .i64, .int .i64] 179, .row (.int .i64) 3], 1⟩
theorem okp_spec_DrawPlaces (spec_l01Below : Nat → (List Int × Int × Int) × Int → Option (Int × (Unit × Int × Int))) (spec_l01Byte : Nat → (List Int × Int × Int) → Option (Int × (Unit × Int × Int))) (spec_l01New : Nat → List Int → Option ((Unit × Int × Int))) (h45 : CtrOK Try.prog 45 (con_spec_l01Below spec_l01Below)) (h44 : CtrOK Try.prog 44 (con_spec_l01Byte spec_l01Byte)) (h43 : CtrOK Try.prog 43 (con_spec_l01New spec_l01New)) : CtrOK Try.prog 11 (con_spec_DrawPlaces (spec_DrawPlaces_ spec_l01Below spec_l01Byte spec_l01New )) :=
  fun_ok (c := Try.f11.body.getD .skip) (con_spec_DrawPlaces (spec_DrawPlaces_ spec_l01Below spec_l01Byte spec_l01New )) (gOf [(45, con_spec_l01Below spec_l01Below), (44, con_spec_l01Byte spec_l01Byte), (43, con_spec_l01New spec_l01New)]) [] [⟨5, lp_spec_DrawPlaces_5, spec_DrawPlaces_L5 spec_l01Below spec_l01Byte spec_l01New ⟩] rfl Try.func11 rfl rfl rfl (gOf_cons h45 (gOf_cons h44 (gOf_cons h43 (gOf_nil)))) (by kernel_rfl) [5] 1 (by kernel_rfl) (by kernel_rfl)
    (fun x => .cons (⟨5, lp_spec_DrawPlaces_5, spec_DrawPlaces_L5 spec_l01Below spec_l01Byte spec_l01New ⟩ : Lab (OKs [.v false [.own (.int .i64) 3]])) rfl rfl (by kernel_rfl) (by kernel_rfl) (.nil _))
theorem ok_spec_DrawPlaces : CtrOK Try.prog 11 (con_spec_DrawPlaces fun _ => g_spec_DrawPlaces) := (okp_spec_DrawPlaces _ _ _ ok_spec_l01Below ok_spec_l01Byte ok_spec_l01New).nice e_spec_DrawPlaces

theorem okp_laws_big : CtrOK Try.prog 10 (con_laws_big (laws_big_ )) :=
  fun_ok0 (c := Try.f10.body.getD .skip) (con_laws_big (laws_big_ )) (gOf []) rfl Try.func10 rfl rfl rfl (gOf_nil) (by kernel_rfl) (by kernel_rfl)
theorem ok_laws_big : CtrOK Try.prog 10 (con_laws_big fun _ => g_laws_big) := (okp_laws_big  ).nice e_laws_big

theorem okp_laws_FnLinks (impl_DeviceNew : Nat → Unit → Option ((Int × Int × Int × Int × Int × Int × Int × Int × List Int × Int × Int × Bool × Int × Int × ByteArray × (List (Int × (Int × Int))) × Int))) (impl_PumpNew : Nat → Unit → Option ((Int × Int × Int × Int × Int × Int × Int × Int))) (impl_TickDevice : Nat → (Int × Int × Int × Int × Int × Int × Int × Int × List Int × Int × Int × Bool × Int × Int × ByteArray × (List (Int × (Int × Int))) × Int) × (Int × ByteArray × ByteArray) → Option ((Int × Int × Int × Int × Int × Int × Int × Int × List Int × Int × Int × Bool × Int × Int × ByteArray × (List (Int × (Int × Int))) × Int))) (laws_big : Nat → List Int → Option (Bool)) (laws_sameTicks : Nat → ((List (Int × (Int × Int)))) × ((List (Int × (Int × Int)))) → Option (Bool)) (laws_turned : Nat → ByteArray × List Int → Option (ByteArray)) (spec_Decimal : Nat → Int → Option (ByteArray)) (spec_DrawPlaces : Nat → List Int → Option (List Int)) (spec_OrderText : Nat → (Int × Int × Int × Int) → Option (ByteArray × Bool)) (h17 : CtrOK Try.prog 17 (con_impl_DeviceNew impl_DeviceNew)) (h21 : CtrOK Try.prog 21 (con_impl_PumpNew impl_PumpNew)) (h16 : CtrOK Try.prog 16 (con_impl_TickDevice impl_TickDevice)) (h10 : CtrOK Try.prog 10 (con_laws_big laws_big)) (h20 : CtrOK Try.prog 20 (con_laws_sameTicks laws_sameTicks)) (h19 : CtrOK Try.prog 19 (con_laws_turned laws_turned)) (h18 : CtrOK Try.prog 18 (con_spec_Decimal spec_Decimal)) (h11 : CtrOK Try.prog 11 (con_spec_DrawPlaces spec_DrawPlaces)) (h12 : CtrOK Try.prog 12 (con_spec_OrderText spec_OrderText)) : CtrOK Try.prog 4 (con_laws_FnLinks (laws_FnLinks_ impl_DeviceNew impl_PumpNew impl_TickDevice laws_big laws_sameTicks laws_turned spec_Decimal spec_DrawPlaces spec_OrderText )) :=
  fun_ok0 (c := Try.f4.body.getD .skip) (con_laws_FnLinks (laws_FnLinks_ impl_DeviceNew impl_PumpNew impl_TickDevice laws_big laws_sameTicks laws_turned spec_Decimal spec_DrawPlaces spec_OrderText )) (gOf [(17, con_impl_DeviceNew impl_DeviceNew), (21, con_impl_PumpNew impl_PumpNew), (16, con_impl_TickDevice impl_TickDevice), (10, con_laws_big laws_big), (20, con_laws_sameTicks laws_sameTicks), (19, con_laws_turned laws_turned), (18, con_spec_Decimal spec_Decimal), (11, con_spec_DrawPlaces spec_DrawPlaces), (12, con_spec_OrderText spec_OrderText)]) rfl Try.func4 rfl rfl rfl (gOf_cons h17 (gOf_cons h21 (gOf_cons h16 (gOf_cons h10 (gOf_cons h20 (gOf_cons h19 (gOf_cons h18 (gOf_cons h11 (gOf_cons h12 (gOf_nil)))))))))) (by kernel_rfl) (by kernel_rfl)
theorem ok_laws_FnLinks : CtrOK Try.prog 4 (con_laws_FnLinks fun _ => g_laws_FnLinks) := (okp_laws_FnLinks _ _ _ _ _ _ _ _ _ ok_impl_DeviceNew ok_impl_PumpNew ok_impl_TickDevice ok_laws_big ok_laws_sameTicks ok_laws_turned ok_spec_Decimal ok_spec_DrawPlaces ok_spec_OrderText).nice e_laws_FnLinks

end Go.Sx.T
