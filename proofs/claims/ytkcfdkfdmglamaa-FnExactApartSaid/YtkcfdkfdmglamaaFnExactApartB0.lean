/- Functions of the program as functions of Lean, and that the program keeps to them. -/
import Derived.Test.YtkcfdkfdmglamaaFnExactApartA0
import Derived.Test.YtkcfdkfdmglamaaProg
set_option maxRecDepth 100000
set_option linter.unusedVariables false
set_option linter.unusedSimpArgs false
namespace Go.Proofs
end Go.Proofs
namespace Go.Sx.T
open Go Go.Sx Go.Proofs Go.RowKit
theorem okp_laws_eqEntry : CtrOK Try.prog 163 (con_laws_eqEntry (laws_eqEntry_ )) :=
  fun_ok0 (c := Try.f163.body.getD .skip) (con_laws_eqEntry (laws_eqEntry_ )) (gOf []) rfl Try.func163 rfl rfl rfl (gOf_nil) (by kernel_rfl) (by kernel_rfl)
theorem ok_laws_eqEntry : CtrOK Try.prog 163 (con_laws_eqEntry fun _ => g_laws_eqEntry) := (okp_laws_eqEntry  ).nice e_laws_eqEntry

def lp_laws_eqEntryS_4 : LP := ⟨[(0, false, [.sl 0]), (1, false, [.sl 1]), (5, false, [.int .i64])], [.ro (.pair (.int .i64) (.pair (.int .i64) (.pair (.int .i64) (.pair (.int .i64) (.int .i64))))) 0, .ro (.pair (.int .i64) (.pair (.int .i64) (.pair (.int .i64) (.pair (.int .i64) (.int .i64))))) 0], 2⟩
theorem okp_laws_eqEntryS (laws_eqEntry : Nat → (Int × Int × Int × Int × Int) × (Int × Int × Int × Int × Int) → Option (Bool)) (h163 : CtrOK Try.prog 163 (con_laws_eqEntry laws_eqEntry)) : CtrOK Try.prog 99 (con_laws_eqEntryS (laws_eqEntryS_ laws_eqEntry )) :=
  fun_ok (c := Try.f99.body.getD .skip) (con_laws_eqEntryS (laws_eqEntryS_ laws_eqEntry )) (gOf [(163, con_laws_eqEntry laws_eqEntry)]) [] [⟨4, lp_laws_eqEntryS_4, laws_eqEntryS_L4 laws_eqEntry ⟩] rfl Try.func99 rfl rfl rfl (gOf_cons h163 (gOf_nil)) (by kernel_rfl) [4] 2 (by kernel_rfl) (by kernel_rfl)
    (fun x => .cons (⟨4, lp_laws_eqEntryS_4, laws_eqEntryS_L4 laws_eqEntry ⟩ : Lab (OKs [.v false [.bool]])) rfl rfl (by kernel_rfl) (by kernel_rfl) (.nil _))
theorem ok_laws_eqEntryS : CtrOK Try.prog 99 (con_laws_eqEntryS fun _ => g_laws_eqEntryS) := (okp_laws_eqEntryS _ ok_laws_eqEntry).nice e_laws_eqEntryS

def lp_laws_eqIntS_4 : LP := ⟨[(0, false, [.sl 0]), (1, false, [.sl 1]), (5, false, [.int .i64])], [.ro (.int .i64) 0, .ro (.int .i64) 0], 2⟩
theorem okp_laws_eqIntS : CtrOK Try.prog 98 (con_laws_eqIntS (laws_eqIntS_ )) :=
  fun_ok (c := Try.f98.body.getD .skip) (con_laws_eqIntS (laws_eqIntS_ )) (gOf []) [] [⟨4, lp_laws_eqIntS_4, laws_eqIntS_L4 ⟩] rfl Try.func98 rfl rfl rfl (gOf_nil) (by kernel_rfl) [4] 2 (by kernel_rfl) (by kernel_rfl)
    (fun x => .cons (⟨4, lp_laws_eqIntS_4, laws_eqIntS_L4 ⟩ : Lab (OKs [.v false [.bool]])) rfl rfl (by kernel_rfl) (by kernel_rfl) (.nil _))
theorem ok_laws_eqIntS : CtrOK Try.prog 98 (con_laws_eqIntS fun _ => g_laws_eqIntS) := (okp_laws_eqIntS  ).nice e_laws_eqIntS

theorem okp_laws_eqMsg : CtrOK Try.prog 235 (con_laws_eqMsg (laws_eqMsg_ )) :=
  fun_ok0 (c := Try.f235.body.getD .skip) (con_laws_eqMsg (laws_eqMsg_ )) (gOf []) rfl Try.func235 rfl rfl rfl (gOf_nil) (by kernel_rfl) (by kernel_rfl)
theorem ok_laws_eqMsg : CtrOK Try.prog 235 (con_laws_eqMsg fun _ => g_laws_eqMsg) := (okp_laws_eqMsg  ).nice e_laws_eqMsg

def lp_laws_eqMsgS_4 : LP := ⟨[(0, false, [.sl 0]), (1, false, [.sl 1]), (5, false, [.int .i64])], [.ro (.pair (.int .i64) (.int .i64)) 0, .ro (.pair (.int .i64) (.int .i64)) 0], 2⟩
theorem okp_laws_eqMsgS (laws_eqMsg : Nat → (Int × Int) × (Int × Int) → Option (Bool)) (h235 : CtrOK Try.prog 235 (con_laws_eqMsg laws_eqMsg)) : CtrOK Try.prog 207 (con_laws_eqMsgS (laws_eqMsgS_ laws_eqMsg )) :=
  fun_ok (c := Try.f207.body.getD .skip) (con_laws_eqMsgS (laws_eqMsgS_ laws_eqMsg )) (gOf [(235, con_laws_eqMsg laws_eqMsg)]) [] [⟨4, lp_laws_eqMsgS_4, laws_eqMsgS_L4 laws_eqMsg ⟩] rfl Try.func207 rfl rfl rfl (gOf_cons h235 (gOf_nil)) (by kernel_rfl) [4] 2 (by kernel_rfl) (by kernel_rfl)
    (fun x => .cons (⟨4, lp_laws_eqMsgS_4, laws_eqMsgS_L4 laws_eqMsg ⟩ : Lab (OKs [.v false [.bool]])) rfl rfl (by kernel_rfl) (by kernel_rfl) (.nil _))
theorem ok_laws_eqMsgS : CtrOK Try.prog 207 (con_laws_eqMsgS fun _ => g_laws_eqMsgS) := (okp_laws_eqMsgS _ ok_laws_eqMsg).nice e_laws_eqMsgS

theorem okp_laws_eqLine (laws_eqMsgS : Nat → ((List (Int × Int))) × ((List (Int × Int))) → Option (Bool)) (h207 : CtrOK Try.prog 207 (con_laws_eqMsgS laws_eqMsgS)) : CtrOK Try.prog 162 (con_laws_eqLine (laws_eqLine_ laws_eqMsgS )) :=
  fun_ok0 (c := Try.f162.body.getD .skip) (con_laws_eqLine (laws_eqLine_ laws_eqMsgS )) (gOf [(207, con_laws_eqMsgS laws_eqMsgS)]) rfl Try.func162 rfl rfl rfl (gOf_cons h207 (gOf_nil)) (by kernel_rfl) (by kernel_rfl)
theorem ok_laws_eqLine : CtrOK Try.prog 162 (con_laws_eqLine fun _ => g_laws_eqLine) := (okp_laws_eqLine _ ok_laws_eqMsgS).nice e_laws_eqLine

def lp_laws_eqLineS_4 : LP := ⟨[(0, false, [.sl 0]), (1, false, [.sl 2]), (5, false, [.int .i64])], [.nro (.sl (.pair (.int .i64) (.int .i64))) 0, .dead, .nro (.sl (.pair (.int .i64) (.int .i64))) 0, .dead], 4⟩
theorem okp_laws_eqLineS (laws_eqLine : Nat → ((List (Int × Int))) × ((List (Int × Int))) → Option (Bool)) (h162 : CtrOK Try.prog 162 (con_laws_eqLine laws_eqLine)) : CtrOK Try.prog 97 (con_laws_eqLineS (laws_eqLineS_ laws_eqLine )) :=
  fun_ok (c := Try.f97.body.getD .skip) (con_laws_eqLineS (laws_eqLineS_ laws_eqLine )) (gOf [(162, con_laws_eqLine laws_eqLine)]) [] [⟨4, lp_laws_eqLineS_4, laws_eqLineS_L4 laws_eqLine ⟩] rfl Try.func97 rfl rfl rfl (gOf_cons h162 (gOf_nil)) (by kernel_rfl) [4] 4 (by kernel_rfl) (by kernel_rfl)
    (fun x => .cons (⟨4, lp_laws_eqLineS_4, laws_eqLineS_L4 laws_eqLine ⟩ : Lab (OKs [.v false [.bool]])) rfl rfl (by kernel_rfl) (by kernel_rfl) (.nil _))
theorem ok_laws_eqLineS : CtrOK Try.prog 97 (con_laws_eqLineS fun _ => g_laws_eqLineS) := (okp_laws_eqLineS _ ok_laws_eqLine).nice e_laws_eqLineS

theorem okp_laws_eqCpu (laws_eqIntS : Nat → List Int × List Int → Option (Bool)) (h98 : CtrOK Try.prog 98 (con_laws_eqIntS laws_eqIntS)) : CtrOK Try.prog 206 (con_laws_eqCpu (laws_eqCpu_ laws_eqIntS )) :=
  fun_ok0 (c := Try.f206.body.getD .skip) (con_laws_eqCpu (laws_eqCpu_ laws_eqIntS )) (gOf [(98, con_laws_eqIntS laws_eqIntS)]) rfl Try.func206 rfl rfl rfl (gOf_cons h98 (gOf_nil)) (by kernel_rfl) (by kernel_rfl)
theorem ok_laws_eqCpu : CtrOK Try.prog 206 (con_laws_eqCpu fun _ => g_laws_eqCpu) := (okp_laws_eqCpu _ ok_laws_eqIntS).nice e_laws_eqCpu

theorem okp_laws_eqPart (laws_eqCpu : Nat → (Int × List Int) × (Int × List Int) → Option (Bool)) (h206 : CtrOK Try.prog 206 (con_laws_eqCpu laws_eqCpu)) : CtrOK Try.prog 161 (con_laws_eqPart (laws_eqPart_ laws_eqCpu )) :=
  fun_ok0 (c := Try.f161.body.getD .skip) (con_laws_eqPart (laws_eqPart_ laws_eqCpu )) (gOf [(206, con_laws_eqCpu laws_eqCpu)]) rfl Try.func161 rfl rfl rfl (gOf_cons h206 (gOf_nil)) (by kernel_rfl) (by kernel_rfl)
theorem ok_laws_eqPart : CtrOK Try.prog 161 (con_laws_eqPart fun _ => g_laws_eqPart) := (okp_laws_eqPart _ ok_laws_eqCpu).nice e_laws_eqPart

def lp_laws_eqPartS_4 : LP := ⟨[(0, false, [.sl 0]), (1, false, [.sl 2]), (5, false, [.int .i64])], [.nro (.pair (.f (.int .i64)) (.pair (.pair (.f (.int .i64)) (.sl (.int .i64))) (.pair (.f (.int .i64)) (.pair (.f (.int .i64)) (.f (.int .i64)))))) 0, .dead, .nro (.pair (.f (.int .i64)) (.pair (.pair (.f (.int .i64)) (.sl (.int .i64))) (.pair (.f (.int .i64)) (.pair (.f (.int .i64)) (.f (.int .i64)))))) 0, .dead], 4⟩
theorem okp_laws_eqPartS (laws_eqPart : Nat → (Int × Int × List Int × Int × Int × Int) × (Int × Int × List Int × Int × Int × Int) → Option (Bool)) (h161 : CtrOK Try.prog 161 (con_laws_eqPart laws_eqPart)) : CtrOK Try.prog 96 (con_laws_eqPartS (laws_eqPartS_ laws_eqPart )) :=
  fun_ok (c := Try.f96.body.getD .skip) (con_laws_eqPartS (laws_eqPartS_ laws_eqPart )) (gOf [(161, con_laws_eqPart laws_eqPart)]) [] [⟨4, lp_laws_eqPartS_4, laws_eqPartS_L4 laws_eqPart ⟩] rfl Try.func96 rfl rfl rfl (gOf_cons h161 (gOf_nil)) (by kernel_rfl) [4] 4 (by kernel_rfl) (by kernel_rfl)
    (fun x => .cons (⟨4, lp_laws_eqPartS_4, laws_eqPartS_L4 laws_eqPart ⟩ : Lab (OKs [.v false [.bool]])) rfl rfl (by kernel_rfl) (by kernel_rfl) (.nil _))
theorem ok_laws_eqPartS : CtrOK Try.prog 96 (con_laws_eqPartS fun _ => g_laws_eqPartS) := (okp_laws_eqPartS _ ok_laws_eqPart).nice e_laws_eqPartS

theorem okp_laws_eqArena (laws_eqIntS : Nat → List Int × List Int → Option (Bool)) (h98 : CtrOK Try.prog 98 (con_laws_eqIntS laws_eqIntS)) : CtrOK Try.prog 95 (con_laws_eqArena (laws_eqArena_ laws_eqIntS )) :=
  fun_ok0 (c := Try.f95.body.getD .skip) (con_laws_eqArena (laws_eqArena_ laws_eqIntS )) (gOf [(98, con_laws_eqIntS laws_eqIntS)]) rfl Try.func95 rfl rfl rfl (gOf_cons h98 (gOf_nil)) (by kernel_rfl) (by kernel_rfl)
theorem ok_laws_eqArena : CtrOK Try.prog 95 (con_laws_eqArena fun _ => g_laws_eqArena) := (okp_laws_eqArena _ ok_laws_eqIntS).nice e_laws_eqArena

def lp_laws_eqStringS_4 : LP := ⟨[(0, false, [.sl 0]), (1, false, [.sl 1]), (5, false, [.int .i64])], [.ro .str 0, .ro .str 0], 2⟩
theorem okp_laws_eqStringS : CtrOK Try.prog 160 (con_laws_eqStringS (laws_eqStringS_ )) :=
  fun_ok (c := Try.f160.body.getD .skip) (con_laws_eqStringS (laws_eqStringS_ )) (gOf []) [] [⟨4, lp_laws_eqStringS_4, laws_eqStringS_L4 ⟩] rfl Try.func160 rfl rfl rfl (gOf_nil) (by kernel_rfl) [4] 2 (by kernel_rfl) (by kernel_rfl)
    (fun x => .cons (⟨4, lp_laws_eqStringS_4, laws_eqStringS_L4 ⟩ : Lab (OKs [.v false [.bool]])) rfl rfl (by kernel_rfl) (by kernel_rfl) (.nil _))
theorem ok_laws_eqStringS : CtrOK Try.prog 160 (con_laws_eqStringS fun _ => g_laws_eqStringS) := (okp_laws_eqStringS  ).nice e_laws_eqStringS

theorem okp_laws_eqRule : CtrOK Try.prog 205 (con_laws_eqRule (laws_eqRule_ )) :=
  fun_ok0 (c := Try.f205.body.getD .skip) (con_laws_eqRule (laws_eqRule_ )) (gOf []) rfl Try.func205 rfl rfl rfl (gOf_nil) (by kernel_rfl) (by kernel_rfl)
theorem ok_laws_eqRule : CtrOK Try.prog 205 (con_laws_eqRule fun _ => g_laws_eqRule) := (okp_laws_eqRule  ).nice e_laws_eqRule

def lp_laws_eqRuleS_4 : LP := ⟨[(0, false, [.sl 0]), (1, false, [.sl 1]), (5, false, [.int .i64])], [.ro (.pair (.int .i64) (.pair (.int .i64) (.int .i64))) 0, .ro (.pair (.int .i64) (.pair (.int .i64) (.int .i64))) 0], 2⟩
theorem okp_laws_eqRuleS (laws_eqRule : Nat → (Int × Int × Int) × (Int × Int × Int) → Option (Bool)) (h205 : CtrOK Try.prog 205 (con_laws_eqRule laws_eqRule)) : CtrOK Try.prog 159 (con_laws_eqRuleS (laws_eqRuleS_ laws_eqRule )) :=
  fun_ok (c := Try.f159.body.getD .skip) (con_laws_eqRuleS (laws_eqRuleS_ laws_eqRule )) (gOf [(205, con_laws_eqRule laws_eqRule)]) [] [⟨4, lp_laws_eqRuleS_4, laws_eqRuleS_L4 laws_eqRule ⟩] rfl Try.func159 rfl rfl rfl (gOf_cons h205 (gOf_nil)) (by kernel_rfl) [4] 2 (by kernel_rfl) (by kernel_rfl)
    (fun x => .cons (⟨4, lp_laws_eqRuleS_4, laws_eqRuleS_L4 laws_eqRule ⟩ : Lab (OKs [.v false [.bool]])) rfl rfl (by kernel_rfl) (by kernel_rfl) (.nil _))
theorem ok_laws_eqRuleS : CtrOK Try.prog 159 (con_laws_eqRuleS fun _ => g_laws_eqRuleS) := (okp_laws_eqRuleS _ ok_laws_eqRule).nice e_laws_eqRuleS

theorem okp_laws_eqPort : CtrOK Try.prog 204 (con_laws_eqPort (laws_eqPort_ )) :=
  fun_ok0 (c := Try.f204.body.getD .skip) (con_laws_eqPort (laws_eqPort_ )) (gOf []) rfl Try.func204 rfl rfl rfl (gOf_nil) (by kernel_rfl) (by kernel_rfl)
theorem ok_laws_eqPort : CtrOK Try.prog 204 (con_laws_eqPort fun _ => g_laws_eqPort) := (okp_laws_eqPort  ).nice e_laws_eqPort

def lp_laws_eqPortS_4 : LP := ⟨[(0, false, [.sl 0]), (1, false, [.sl 1]), (5, false, [.int .i64])], [.ro (.pair (.int .i64) (.pair (.int .i64) (.pair (.int .i64) (.pair (.int .i64) (.int .i64))))) 0, .ro (.pair (.int .i64) (.pair (.int .i64) (.pair (.int .i64) (.pair (.int .i64) (.int .i64))))) 0], 2⟩
theorem okp_laws_eqPortS (laws_eqPort : Nat → (Int × Int × Int × Int × Int) × (Int × Int × Int × Int × Int) → Option (Bool)) (h204 : CtrOK Try.prog 204 (con_laws_eqPort laws_eqPort)) : CtrOK Try.prog 158 (con_laws_eqPortS (laws_eqPortS_ laws_eqPort )) :=
  fun_ok (c := Try.f158.body.getD .skip) (con_laws_eqPortS (laws_eqPortS_ laws_eqPort )) (gOf [(204, con_laws_eqPort laws_eqPort)]) [] [⟨4, lp_laws_eqPortS_4, laws_eqPortS_L4 laws_eqPort ⟩] rfl Try.func158 rfl rfl rfl (gOf_cons h204 (gOf_nil)) (by kernel_rfl) [4] 2 (by kernel_rfl) (by kernel_rfl)
    (fun x => .cons (⟨4, lp_laws_eqPortS_4, laws_eqPortS_L4 laws_eqPort ⟩ : Lab (OKs [.v false [.bool]])) rfl rfl (by kernel_rfl) (by kernel_rfl) (.nil _))
theorem ok_laws_eqPortS : CtrOK Try.prog 158 (con_laws_eqPortS fun _ => g_laws_eqPortS) := (okp_laws_eqPortS _ ok_laws_eqPort).nice e_laws_eqPortS

theorem okp_laws_eqWindow : CtrOK Try.prog 203 (con_laws_eqWindow (laws_eqWindow_ )) :=
  fun_ok0 (c := Try.f203.body.getD .skip) (con_laws_eqWindow (laws_eqWindow_ )) (gOf []) rfl Try.func203 rfl rfl rfl (gOf_nil) (by kernel_rfl) (by kernel_rfl)
theorem ok_laws_eqWindow : CtrOK Try.prog 203 (con_laws_eqWindow fun _ => g_laws_eqWindow) := (okp_laws_eqWindow  ).nice e_laws_eqWindow

def lp_laws_eqWindowS_4 : LP := ⟨[(0, false, [.sl 0]), (1, false, [.sl 1]), (5, false, [.int .i64])], [.ro (.pair (.int .i64) (.int .i64)) 0, .ro (.pair (.int .i64) (.int .i64)) 0], 2⟩
theorem okp_laws_eqWindowS (laws_eqWindow : Nat → (Int × Int) × (Int × Int) → Option (Bool)) (h203 : CtrOK Try.prog 203 (con_laws_eqWindow laws_eqWindow)) : CtrOK Try.prog 157 (con_laws_eqWindowS (laws_eqWindowS_ laws_eqWindow )) :=
  fun_ok (c := Try.f157.body.getD .skip) (con_laws_eqWindowS (laws_eqWindowS_ laws_eqWindow )) (gOf [(203, con_laws_eqWindow laws_eqWindow)]) [] [⟨4, lp_laws_eqWindowS_4, laws_eqWindowS_L4 laws_eqWindow ⟩] rfl Try.func157 rfl rfl rfl (gOf_cons h203 (gOf_nil)) (by kernel_rfl) [4] 2 (by kernel_rfl) (by kernel_rfl)
    (fun x => .cons (⟨4, lp_laws_eqWindowS_4, laws_eqWindowS_L4 laws_eqWindow ⟩ : Lab (OKs [.v false [.bool]])) rfl rfl (by kernel_rfl) (by kernel_rfl) (.nil _))
theorem ok_laws_eqWindowS : CtrOK Try.prog 157 (con_laws_eqWindowS fun _ => g_laws_eqWindowS) := (okp_laws_eqWindowS _ ok_laws_eqWindow).nice e_laws_eqWindowS

theorem okp_laws_eqRegion : CtrOK Try.prog 202 (con_laws_eqRegion (laws_eqRegion_ )) :=
  fun_ok0 (c := Try.f202.body.getD .skip) (con_laws_eqRegion (laws_eqRegion_ )) (gOf []) rfl Try.func202 rfl rfl rfl (gOf_nil) (by kernel_rfl) (by kernel_rfl)
theorem ok_laws_eqRegion : CtrOK Try.prog 202 (con_laws_eqRegion fun _ => g_laws_eqRegion) := (okp_laws_eqRegion  ).nice e_laws_eqRegion

def lp_laws_eqRegionS_4 : LP := ⟨[(0, false, [.sl 0]), (1, false, [.sl 1]), (5, false, [.int .i64])], [.ro (.pair (.int .i64) (.int .i64)) 0, .ro (.pair (.int .i64) (.int .i64)) 0], 2⟩
theorem okp_laws_eqRegionS (laws_eqRegion : Nat → (Int × Int) × (Int × Int) → Option (Bool)) (h202 : CtrOK Try.prog 202 (con_laws_eqRegion laws_eqRegion)) : CtrOK Try.prog 156 (con_laws_eqRegionS (laws_eqRegionS_ laws_eqRegion )) :=
  fun_ok (c := Try.f156.body.getD .skip) (con_laws_eqRegionS (laws_eqRegionS_ laws_eqRegion )) (gOf [(202, con_laws_eqRegion laws_eqRegion)]) [] [⟨4, lp_laws_eqRegionS_4, laws_eqRegionS_L4 laws_eqRegion ⟩] rfl Try.func156 rfl rfl rfl (gOf_cons h202 (gOf_nil)) (by kernel_rfl) [4] 2 (by kernel_rfl) (by kernel_rfl)
    (fun x => .cons (⟨4, lp_laws_eqRegionS_4, laws_eqRegionS_L4 laws_eqRegion ⟩ : Lab (OKs [.v false [.bool]])) rfl rfl (by kernel_rfl) (by kernel_rfl) (.nil _))
theorem ok_laws_eqRegionS : CtrOK Try.prog 156 (con_laws_eqRegionS fun _ => g_laws_eqRegionS) := (okp_laws_eqRegionS _ ok_laws_eqRegion).nice e_laws_eqRegionS

theorem okp_laws_eqSetup (laws_eqPortS : Nat → ((List (Int × (Int × (Int × (Int × Int)))))) × ((List (Int × (Int × (Int × (Int × Int)))))) → Option (Bool)) (laws_eqRegionS : Nat → ((List (Int × Int))) × ((List (Int × Int))) → Option (Bool)) (laws_eqRuleS : Nat → ((List (Int × (Int × Int)))) × ((List (Int × (Int × Int)))) → Option (Bool)) (laws_eqStringS : Nat → List ByteArray × List ByteArray → Option (Bool)) (laws_eqWindowS : Nat → ((List (Int × Int))) × ((List (Int × Int))) → Option (Bool)) (h158 : CtrOK Try.prog 158 (con_laws_eqPortS laws_eqPortS)) (h156 : CtrOK Try.prog 156 (con_laws_eqRegionS laws_eqRegionS)) (h159 : CtrOK Try.prog 159 (con_laws_eqRuleS laws_eqRuleS)) (h160 : CtrOK Try.prog 160 (con_laws_eqStringS laws_eqStringS)) (h157 : CtrOK Try.prog 157 (con_laws_eqWindowS laws_eqWindowS)) : CtrOK Try.prog 94 (con_laws_eqSetup (laws_eqSetup_ laws_eqPortS laws_eqRegionS laws_eqRuleS laws_eqStringS laws_eqWindowS )) :=
  fun_ok0 (c := Try.f94.body.getD .skip) (con_laws_eqSetup (laws_eqSetup_ laws_eqPortS laws_eqRegionS laws_eqRuleS laws_eqStringS laws_eqWindowS )) (gOf [(158, con_laws_eqPortS laws_eqPortS), (156, con_laws_eqRegionS laws_eqRegionS), (159, con_laws_eqRuleS laws_eqRuleS), (160, con_laws_eqStringS laws_eqStringS), (157, con_laws_eqWindowS laws_eqWindowS)]) rfl Try.func94 rfl rfl rfl (gOf_cons h158 (gOf_cons h156 (gOf_cons h159 (gOf_cons h160 (gOf_cons h157 (gOf_nil)))))) (by kernel_rfl) (by kernel_rfl)
theorem ok_laws_eqSetup : CtrOK Try.prog 94 (con_laws_eqSetup fun _ => g_laws_eqSetup) := (okp_laws_eqSetup _ _ _ _ _ ok_laws_eqPortS ok_laws_eqRegionS ok_laws_eqRuleS ok_laws_eqStringS ok_laws_eqWindowS).nice e_laws_eqSetup

theorem okp_laws_szIntS : CtrOK Try.prog 81 (con_laws_szIntS (laws_szIntS_ )) :=
  fun_ok0 (c := Try.f81.body.getD .skip) (con_laws_szIntS (laws_szIntS_ )) (gOf []) rfl Try.func81 rfl rfl rfl (gOf_nil) (by kernel_rfl) (by kernel_rfl)
theorem ok_laws_szIntS : CtrOK Try.prog 81 (con_laws_szIntS fun _ => g_laws_szIntS) := (okp_laws_szIntS  ).nice e_laws_szIntS

theorem okp_laws_szArena (laws_szIntS : Nat → List Int × Int → Option (Int)) (h81 : CtrOK Try.prog 81 (con_laws_szIntS laws_szIntS)) : CtrOK Try.prog 78 (con_laws_szArena (laws_szArena_ laws_szIntS )) :=
  fun_ok0 (c := Try.f78.body.getD .skip) (con_laws_szArena (laws_szArena_ laws_szIntS )) (gOf [(81, con_laws_szIntS laws_szIntS)]) rfl Try.func78 rfl rfl rfl (gOf_cons h81 (gOf_nil)) (by kernel_rfl) (by kernel_rfl)
theorem ok_laws_szArena : CtrOK Try.prog 78 (con_laws_szArena fun _ => g_laws_szArena) := (okp_laws_szArena _ ok_laws_szIntS).nice e_laws_szArena

theorem okp_laws_szEntryS : CtrOK Try.prog 82 (con_laws_szEntryS (laws_szEntryS_ )) :=
  fun_ok0 (c := Try.f82.body.getD .skip) (con_laws_szEntryS (laws_szEntryS_ )) (gOf []) rfl Try.func82 rfl rfl rfl (gOf_nil) (by kernel_rfl) (by kernel_rfl)
theorem ok_laws_szEntryS : CtrOK Try.prog 82 (con_laws_szEntryS fun _ => g_laws_szEntryS) := (okp_laws_szEntryS  ).nice e_laws_szEntryS

theorem okp_laws_szMsgS : CtrOK Try.prog 192 (con_laws_szMsgS (laws_szMsgS_ )) :=
  fun_ok0 (c := Try.f192.body.getD .skip) (con_laws_szMsgS (laws_szMsgS_ )) (gOf []) rfl Try.func192 rfl rfl rfl (gOf_nil) (by kernel_rfl) (by kernel_rfl)
theorem ok_laws_szMsgS : CtrOK Try.prog 192 (con_laws_szMsgS fun _ => g_laws_szMsgS) := (okp_laws_szMsgS  ).nice e_laws_szMsgS

theorem okp_laws_szLine (laws_szMsgS : Nat → ((List (Int × Int))) × Int → Option (Int)) (h192 : CtrOK Try.prog 192 (con_laws_szMsgS laws_szMsgS)) : CtrOK Try.prog 142 (con_laws_szLine (laws_szLine_ laws_szMsgS )) :=
  fun_ok0 (c := Try.f142.body.getD .skip) (con_laws_szLine (laws_szLine_ laws_szMsgS )) (gOf [(192, con_laws_szMsgS laws_szMsgS)]) rfl Try.func142 rfl rfl rfl (gOf_cons h192 (gOf_nil)) (by kernel_rfl) (by kernel_rfl)
theorem ok_laws_szLine : CtrOK Try.prog 142 (con_laws_szLine fun _ => g_laws_szLine) := (okp_laws_szLine _ ok_laws_szMsgS).nice e_laws_szLine

def lp_laws_szLineS_5 : LP := ⟨[(0, false, [.sl 0]), (1, false, [.int .i64]), (5, false, [.int .i64])], [.nro (.sl (.pair (.int .i64) (.int .i64))) 0, .dead], 2⟩
theorem okp_laws_szLineS (laws_szLine : Nat → ((List (Int × Int))) × Int → Option (Int)) (h142 : CtrOK Try.prog 142 (con_laws_szLine laws_szLine)) : CtrOK Try.prog 80 (con_laws_szLineS (laws_szLineS_ laws_szLine )) :=
  fun_ok (c := Try.f80.body.getD .skip) (con_laws_szLineS (laws_szLineS_ laws_szLine )) (gOf [(142, con_laws_szLine laws_szLine)]) [] [⟨5, lp_laws_szLineS_5, laws_szLineS_L5 laws_szLine ⟩] rfl Try.func80 rfl rfl rfl (gOf_cons h142 (gOf_nil)) (by kernel_rfl) [5] 2 (by kernel_rfl) (by kernel_rfl)
    (fun x => .cons (⟨5, lp_laws_szLineS_5, laws_szLineS_L5 laws_szLine ⟩ : Lab (OKs [.v false [.int .i64]])) rfl rfl (by kernel_rfl) (by kernel_rfl) (.nil _))
theorem ok_laws_szLineS : CtrOK Try.prog 80 (con_laws_szLineS fun _ => g_laws_szLineS) := (okp_laws_szLineS _ ok_laws_szLine).nice e_laws_szLineS

theorem okp_laws_szCpu (laws_szIntS : Nat → List Int × Int → Option (Int)) (h81 : CtrOK Try.prog 81 (con_laws_szIntS laws_szIntS)) : CtrOK Try.prog 191 (con_laws_szCpu (laws_szCpu_ laws_szIntS )) :=
  fun_ok0 (c := Try.f191.body.getD .skip) (con_laws_szCpu (laws_szCpu_ laws_szIntS )) (gOf [(81, con_laws_szIntS laws_szIntS)]) rfl Try.func191 rfl rfl rfl (gOf_cons h81 (gOf_nil)) (by kernel_rfl) (by kernel_rfl)
theorem ok_laws_szCpu : CtrOK Try.prog 191 (con_laws_szCpu fun _ => g_laws_szCpu) := (okp_laws_szCpu _ ok_laws_szIntS).nice e_laws_szCpu

theorem okp_laws_szPart (laws_szCpu : Nat → (Int × List Int) × Int → Option (Int)) (h191 : CtrOK Try.prog 191 (con_laws_szCpu laws_szCpu)) : CtrOK Try.prog 141 (con_laws_szPart (laws_szPart_ laws_szCpu )) :=
  fun_ok0 (c := Try.f141.body.getD .skip) (con_laws_szPart (laws_szPart_ laws_szCpu )) (gOf [(191, con_laws_szCpu laws_szCpu)]) rfl Try.func141 rfl rfl rfl (gOf_cons h191 (gOf_nil)) (by kernel_rfl) (by kernel_rfl)
theorem ok_laws_szPart : CtrOK Try.prog 141 (con_laws_szPart fun _ => g_laws_szPart) := (okp_laws_szPart _ ok_laws_szCpu).nice e_laws_szPart

def lp_laws_szPartS_5 : LP := ⟨[(0, false, [.sl 0]), (1, false, [.int .i64]), (5, false, [.int .i64])], [.nro (.pair (.f (.int .i64)) (.pair (.pair (.f (.int .i64)) (.sl (.int .i64))) (.pair (.f (.int .i64)) (.pair (.f (.int .i64)) (.f (.int .i64)))))) 0, .dead], 2⟩
theorem okp_laws_szPartS (laws_szPart : Nat → (Int × Int × List Int × Int × Int × Int) × Int → Option (Int)) (h141 : CtrOK Try.prog 141 (con_laws_szPart laws_szPart)) : CtrOK Try.prog 79 (con_laws_szPartS (laws_szPartS_ laws_szPart )) :=
  fun_ok (c := Try.f79.body.getD .skip) (con_laws_szPartS (laws_szPartS_ laws_szPart )) (gOf [(141, con_laws_szPart laws_szPart)]) [] [⟨5, lp_laws_szPartS_5, laws_szPartS_L5 laws_szPart ⟩] rfl Try.func79 rfl rfl rfl (gOf_cons h141 (gOf_nil)) (by kernel_rfl) [5] 2 (by kernel_rfl) (by kernel_rfl)
    (fun x => .cons (⟨5, lp_laws_szPartS_5, laws_szPartS_L5 laws_szPart ⟩ : Lab (OKs [.v false [.int .i64]])) rfl rfl (by kernel_rfl) (by kernel_rfl) (.nil _))
theorem ok_laws_szPartS : CtrOK Try.prog 79 (con_laws_szPartS fun _ => g_laws_szPartS) := (okp_laws_szPartS _ ok_laws_szPart).nice e_laws_szPartS

theorem okp_laws_szPortS : CtrOK Try.prog 138 (con_laws_szPortS (laws_szPortS_ )) :=
  fun_ok0 (c := Try.f138.body.getD .skip) (con_laws_szPortS (laws_szPortS_ )) (gOf []) rfl Try.func138 rfl rfl rfl (gOf_nil) (by kernel_rfl) (by kernel_rfl)
theorem ok_laws_szPortS : CtrOK Try.prog 138 (con_laws_szPortS fun _ => g_laws_szPortS) := (okp_laws_szPortS  ).nice e_laws_szPortS

theorem okp_laws_szRegionS : CtrOK Try.prog 136 (con_laws_szRegionS (laws_szRegionS_ )) :=
  fun_ok0 (c := Try.f136.body.getD .skip) (con_laws_szRegionS (laws_szRegionS_ )) (gOf []) rfl Try.func136 rfl rfl rfl (gOf_nil) (by kernel_rfl) (by kernel_rfl)
theorem ok_laws_szRegionS : CtrOK Try.prog 136 (con_laws_szRegionS fun _ => g_laws_szRegionS) := (okp_laws_szRegionS  ).nice e_laws_szRegionS

theorem okp_laws_szRuleS : CtrOK Try.prog 139 (con_laws_szRuleS (laws_szRuleS_ )) :=
  fun_ok0 (c := Try.f139.body.getD .skip) (con_laws_szRuleS (laws_szRuleS_ )) (gOf []) rfl Try.func139 rfl rfl rfl (gOf_nil) (by kernel_rfl) (by kernel_rfl)
theorem ok_laws_szRuleS : CtrOK Try.prog 139 (con_laws_szRuleS fun _ => g_laws_szRuleS) := (okp_laws_szRuleS  ).nice e_laws_szRuleS

def lp_laws_szStringS_5 : LP := ⟨[(0, false, [.sl 0]), (1, false, [.int .i64]), (5, false, [.int .i64])], [.ro .str 0], 1⟩
theorem okp_laws_szStringS : CtrOK Try.prog 140 (con_laws_szStringS (laws_szStringS_ )) :=
  fun_ok (c := Try.f140.body.getD .skip) (con_laws_szStringS (laws_szStringS_ )) (gOf []) [] [⟨5, lp_laws_szStringS_5, laws_szStringS_L5 ⟩] rfl Try.func140 rfl rfl rfl (gOf_nil) (by kernel_rfl) [5] 1 (by kernel_rfl) (by kernel_rfl)
    (fun x => .cons (⟨5, lp_laws_szStringS_5, laws_szStringS_L5 ⟩ : Lab (OKs [.v false [.int .i64]])) rfl rfl (by kernel_rfl) (by kernel_rfl) (.nil _))
theorem ok_laws_szStringS : CtrOK Try.prog 140 (con_laws_szStringS fun _ => g_laws_szStringS) := (okp_laws_szStringS  ).nice e_laws_szStringS

theorem okp_laws_szWindowS : CtrOK Try.prog 137 (con_laws_szWindowS (laws_szWindowS_ )) :=
  fun_ok0 (c := Try.f137.body.getD .skip) (con_laws_szWindowS (laws_szWindowS_ )) (gOf []) rfl Try.func137 rfl rfl rfl (gOf_nil) (by kernel_rfl) (by kernel_rfl)
theorem ok_laws_szWindowS : CtrOK Try.prog 137 (con_laws_szWindowS fun _ => g_laws_szWindowS) := (okp_laws_szWindowS  ).nice e_laws_szWindowS

theorem okp_laws_szSetup (laws_szPortS : Nat → ((List (Int × (Int × (Int × (Int × Int)))))) × Int → Option (Int)) (laws_szRegionS : Nat → ((List (Int × Int))) × Int → Option (Int)) (laws_szRuleS : Nat → ((List (Int × (Int × Int)))) × Int → Option (Int)) (laws_szStringS : Nat → List ByteArray × Int → Option (Int)) (laws_szWindowS : Nat → ((List (Int × Int))) × Int → Option (Int)) (h138 : CtrOK Try.prog 138 (con_laws_szPortS laws_szPortS)) (h136 : CtrOK Try.prog 136 (con_laws_szRegionS laws_szRegionS)) (h139 : CtrOK Try.prog 139 (con_laws_szRuleS laws_szRuleS)) (h140 : CtrOK Try.prog 140 (con_laws_szStringS laws_szStringS)) (h137 : CtrOK Try.prog 137 (con_laws_szWindowS laws_szWindowS)) : CtrOK Try.prog 77 (con_laws_szSetup (laws_szSetup_ laws_szPortS laws_szRegionS laws_szRuleS laws_szStringS laws_szWindowS )) :=
  fun_ok0 (c := Try.f77.body.getD .skip) (con_laws_szSetup (laws_szSetup_ laws_szPortS laws_szRegionS laws_szRuleS laws_szStringS laws_szWindowS )) (gOf [(138, con_laws_szPortS laws_szPortS), (136, con_laws_szRegionS laws_szRegionS), (139, con_laws_szRuleS laws_szRuleS), (140, con_laws_szStringS laws_szStringS), (137, con_laws_szWindowS laws_szWindowS)]) rfl Try.func77 rfl rfl rfl (gOf_cons h138 (gOf_cons h136 (gOf_cons h139 (gOf_cons h140 (gOf_cons h137 (gOf_nil)))))) (by kernel_rfl) (by kernel_rfl)
theorem ok_laws_szSetup : CtrOK Try.prog 77 (con_laws_szSetup fun _ => g_laws_szSetup) := (okp_laws_szSetup _ _ _ _ _ ok_laws_szPortS ok_laws_szRegionS ok_laws_szRuleS ok_laws_szStringS ok_laws_szWindowS).nice e_laws_szSetup

theorem okp_laws_szKernel (laws_szArena : Nat → List Int × Int → Option (Int)) (laws_szEntryS : Nat → ((List (Int × (Int × (Int × (Int × Int)))))) × Int → Option (Int)) (laws_szIntS : Nat → List Int × Int → Option (Int)) (laws_szLineS : Nat → ((List (List (Int × Int)))) × Int → Option (Int)) (laws_szPartS : Nat → ((List (Int × ((Int × (List Int)) × (Int × (Int × Int)))))) × Int → Option (Int)) (laws_szSetup : Nat → ((List (Int × Int)) × (List (Int × Int)) × (List (Int × (Int × (Int × (Int × Int))))) × (List (Int × (Int × Int))) × List ByteArray) × Int → Option (Int)) (h78 : CtrOK Try.prog 78 (con_laws_szArena laws_szArena)) (h82 : CtrOK Try.prog 82 (con_laws_szEntryS laws_szEntryS)) (h81 : CtrOK Try.prog 81 (con_laws_szIntS laws_szIntS)) (h80 : CtrOK Try.prog 80 (con_laws_szLineS laws_szLineS)) (h79 : CtrOK Try.prog 79 (con_laws_szPartS laws_szPartS)) (h77 : CtrOK Try.prog 77 (con_laws_szSetup laws_szSetup)) : CtrOK Try.prog 30 (con_laws_szKernel (laws_szKernel_ laws_szArena laws_szEntryS laws_szIntS laws_szLineS laws_szPartS laws_szSetup )) :=
  fun_ok0 (c := Try.f30.body.getD .skip) (con_laws_szKernel (laws_szKernel_ laws_szArena laws_szEntryS laws_szIntS laws_szLineS laws_szPartS laws_szSetup )) (gOf [(78, con_laws_szArena laws_szArena), (82, con_laws_szEntryS laws_szEntryS), (81, con_laws_szIntS laws_szIntS), (80, con_laws_szLineS laws_szLineS), (79, con_laws_szPartS laws_szPartS), (77, con_laws_szSetup laws_szSetup)]) rfl Try.func30 rfl rfl rfl (gOf_cons h78 (gOf_cons h82 (gOf_cons h81 (gOf_cons h80 (gOf_cons h79 (gOf_cons h77 (gOf_nil))))))) (by kernel_rfl) (by kernel_rfl)
theorem ok_laws_szKernel : CtrOK Try.prog 30 (con_laws_szKernel fun _ => g_laws_szKernel) := (okp_laws_szKernel _ _ _ _ _ _ ok_laws_szArena ok_laws_szEntryS ok_laws_szIntS ok_laws_szLineS ok_laws_szPartS ok_laws_szSetup).nice e_laws_szKernel

theorem okp_laws_eqKernel (laws_eqArena : Nat → List Int × List Int → Option (Bool)) (laws_eqEntryS : Nat → ((List (Int × (Int × (Int × (Int × Int)))))) × ((List (Int × (Int × (Int × (Int × Int)))))) → Option (Bool)) (laws_eqIntS : Nat → List Int × List Int → Option (Bool)) (laws_eqLineS : Nat → ((List (List (Int × Int)))) × ((List (List (Int × Int)))) → Option (Bool)) (laws_eqPartS : Nat → ((List (Int × ((Int × (List Int)) × (Int × (Int × Int)))))) × ((List (Int × ((Int × (List Int)) × (Int × (Int × Int)))))) → Option (Bool)) (laws_eqSetup : Nat → ((List (Int × Int)) × (List (Int × Int)) × (List (Int × (Int × (Int × (Int × Int))))) × (List (Int × (Int × Int))) × List ByteArray) × ((List (Int × Int)) × (List (Int × Int)) × (List (Int × (Int × (Int × (Int × Int))))) × (List (Int × (Int × Int))) × List ByteArray) → Option (Bool)) (h95 : CtrOK Try.prog 95 (con_laws_eqArena laws_eqArena)) (h99 : CtrOK Try.prog 99 (con_laws_eqEntryS laws_eqEntryS)) (h98 : CtrOK Try.prog 98 (con_laws_eqIntS laws_eqIntS)) (h97 : CtrOK Try.prog 97 (con_laws_eqLineS laws_eqLineS)) (h96 : CtrOK Try.prog 96 (con_laws_eqPartS laws_eqPartS)) (h94 : CtrOK Try.prog 94 (con_laws_eqSetup laws_eqSetup)) : CtrOK Try.prog 34 (con_laws_eqKernel (laws_eqKernel_ laws_eqArena laws_eqEntryS laws_eqIntS laws_eqLineS laws_eqPartS laws_eqSetup )) :=
  fun_ok0 (c := Try.f34.body.getD .skip) (con_laws_eqKernel (laws_eqKernel_ laws_eqArena laws_eqEntryS laws_eqIntS laws_eqLineS laws_eqPartS laws_eqSetup )) (gOf [(95, con_laws_eqArena laws_eqArena), (99, con_laws_eqEntryS laws_eqEntryS), (98, con_laws_eqIntS laws_eqIntS), (97, con_laws_eqLineS laws_eqLineS), (96, con_laws_eqPartS laws_eqPartS), (94, con_laws_eqSetup laws_eqSetup)]) rfl Try.func34 rfl rfl rfl (gOf_cons h95 (gOf_cons h99 (gOf_cons h98 (gOf_cons h97 (gOf_cons h96 (gOf_cons h94 (gOf_nil))))))) (by kernel_rfl) (by kernel_rfl)
theorem ok_laws_eqKernel : CtrOK Try.prog 34 (con_laws_eqKernel fun _ => g_laws_eqKernel) := (okp_laws_eqKernel _ _ _ _ _ _ ok_laws_eqArena ok_laws_eqEntryS ok_laws_eqIntS ok_laws_eqLineS ok_laws_eqPartS ok_laws_eqSetup).nice e_laws_eqKernel

theorem okp_laws_toEntry : CtrOK Try.prog 152 (con_laws_toEntry (laws_toEntry_ )) :=
  fun_ok0 (c := Try.f152.body.getD .skip) (con_laws_toEntry (laws_toEntry_ )) (gOf []) rfl Try.func152 rfl rfl rfl (gOf_nil) (by kernel_rfl) (by kernel_rfl)
theorem ok_laws_toEntry : CtrOK Try.prog 152 (con_laws_toEntry fun _ => g_laws_toEntry) := (okp_laws_toEntry  ).nice e_laws_toEntry

def lp_laws_toEntryS_3 : LP := ⟨[(0, false, [.sl 0]), (3, false, [.sl 1]), (4, false, [.int .i64])], [.ro (.pair (.int .i64) (.pair (.int .i64) (.pair (.int .i64) (.pair (.int .i64) (.int .i64))))) 0, .row (.pair (.int .i64) (.pair (.int .i64) (.pair (.int .i64) (.pair (.int .i64) (.int .i64))))) 172], 1⟩
theorem okp_laws_toEntryS (laws_toEntry : Nat → (Int × Int × Int × Int × Int) → Option ((Int × Int × Int × Int × Int))) (h152 : CtrOK Try.prog 152 (con_laws_toEntry laws_toEntry)) : CtrOK Try.prog 90 (con_laws_toEntryS (laws_toEntryS_ laws_toEntry )) :=
  fun_ok (c := Try.f90.body.getD .skip) (con_laws_toEntryS (laws_toEntryS_ laws_toEntry )) (gOf [(152, con_laws_toEntry laws_toEntry)]) [] [⟨3, lp_laws_toEntryS_3, laws_toEntryS_L3 laws_toEntry ⟩] rfl Try.func90 rfl rfl rfl (gOf_cons h152 (gOf_nil)) (by kernel_rfl) [3] 1 (by kernel_rfl) (by kernel_rfl)
    (fun x => .cons (⟨3, lp_laws_toEntryS_3, laws_toEntryS_L3 laws_toEntry ⟩ : Lab (OKs [.v false [.own (.pair (.int .i64) (.pair (.int .i64) (.pair (.int .i64) (.pair (.int .i64) (.int .i64))))) 172]])) rfl rfl (by kernel_rfl) (by kernel_rfl) (.nil _))
theorem ok_laws_toEntryS : CtrOK Try.prog 90 (con_laws_toEntryS fun _ => g_laws_toEntryS) := (okp_laws_toEntryS _ ok_laws_toEntry).nice e_laws_toEntryS

def lp_laws_toIntS_3 : LP := ⟨[(0, false, [.sl 0]), (3, false, [.sl 1]), (4, false, [.int .i64])], [.ro (.int .i64) 0, .row (.int .i64) 3], 1⟩
theorem okp_laws_toIntS : CtrOK Try.prog 89 (con_laws_toIntS (laws_toIntS_ )) :=
  fun_ok (c := Try.f89.body.getD .skip) (con_laws_toIntS (laws_toIntS_ )) (gOf []) [] [⟨3, lp_laws_toIntS_3, laws_toIntS_L3 ⟩] rfl Try.func89 rfl rfl rfl (gOf_nil) (by kernel_rfl) [3] 1 (by kernel_rfl) (by kernel_rfl)
    (fun x => .cons (⟨3, lp_laws_toIntS_3, laws_toIntS_L3 ⟩ : Lab (OKs [.v false [.own (.int .i64) 3]])) rfl rfl (by kernel_rfl) (by kernel_rfl) (.nil _))
theorem ok_laws_toIntS : CtrOK Try.prog 89 (con_laws_toIntS fun _ => g_laws_toIntS) := (okp_laws_toIntS  ).nice e_laws_toIntS

theorem okp_laws_toMsg : CtrOK Try.prog 234 (con_laws_toMsg (laws_toMsg_ )) :=
  fun_ok0 (c := Try.f234.body.getD .skip) (con_laws_toMsg (laws_toMsg_ )) (gOf []) rfl Try.func234 rfl rfl rfl (gOf_nil) (by kernel_rfl) (by kernel_rfl)
theorem ok_laws_toMsg : CtrOK Try.prog 234 (con_laws_toMsg fun _ => g_laws_toMsg) := (okp_laws_toMsg  ).nice e_laws_toMsg

def lp_laws_toMsgS_3 : LP := ⟨[(0, false, [.sl 0]), (3, false, [.sl 1]), (4, false, [.int .i64])], [.ro (.pair (.int .i64) (.int .i64)) 0, .row (.pair (.int .i64) (.int .i64)) 312], 1⟩
theorem okp_laws_toMsgS (laws_toMsg : Nat → (Int × Int) → Option ((Int × Int))) (h234 : CtrOK Try.prog 234 (con_laws_toMsg laws_toMsg)) : CtrOK Try.prog 199 (con_laws_toMsgS (laws_toMsgS_ laws_toMsg )) :=
  fun_ok (c := Try.f199.body.getD .skip) (con_laws_toMsgS (laws_toMsgS_ laws_toMsg )) (gOf [(234, con_laws_toMsg laws_toMsg)]) [] [⟨3, lp_laws_toMsgS_3, laws_toMsgS_L3 laws_toMsg ⟩] rfl Try.func199 rfl rfl rfl (gOf_cons h234 (gOf_nil)) (by kernel_rfl) [3] 1 (by kernel_rfl) (by kernel_rfl)
    (fun x => .cons (⟨3, lp_laws_toMsgS_3, laws_toMsgS_L3 laws_toMsg ⟩ : Lab (OKs [.v false [.own (.pair (.int .i64) (.int .i64)) 312]])) rfl rfl (by kernel_rfl) (by kernel_rfl) (.nil _))
theorem ok_laws_toMsgS : CtrOK Try.prog 199 (con_laws_toMsgS fun _ => g_laws_toMsgS) := (okp_laws_toMsgS _ ok_laws_toMsg).nice e_laws_toMsgS

theorem okp_laws_toLine (laws_toMsgS : Nat → ((List (Int × Int))) → Option (((List (Int × Int))))) (h199 : CtrOK Try.prog 199 (con_laws_toMsgS laws_toMsgS)) : CtrOK Try.prog 151 (con_laws_toLine (laws_toLine_ laws_toMsgS )) :=
  fun_ok0 (c := Try.f151.body.getD .skip) (con_laws_toLine (laws_toLine_ laws_toMsgS )) (gOf [(199, con_laws_toMsgS laws_toMsgS)]) rfl Try.func151 rfl rfl rfl (gOf_cons h199 (gOf_nil)) (by kernel_rfl) (by kernel_rfl)
theorem ok_laws_toLine : CtrOK Try.prog 151 (con_laws_toLine fun _ => g_laws_toLine) := (okp_laws_toLine _ ok_laws_toMsgS).nice e_laws_toLine

def lp_laws_toLineS_3 : LP := ⟨[(0, false, [.sl 0]), (3, false, [.sl 2]), (4, false, [.int .i64])], [.nro (.sl (.pair (.int .i64) (.int .i64))) 0, .dead, .nrow (.sl (.pair (.int .i64) (.int .i64))) 227], 2⟩
theorem okp_laws_toLineS (laws_toLine : Nat → ((List (Int × Int))) → Option (((List (Int × Int))))) (h151 : CtrOK Try.prog 151 (con_laws_toLine laws_toLine)) : CtrOK Try.prog 88 (con_laws_toLineS (laws_toLineS_ laws_toLine )) :=
  fun_ok (c := Try.f88.body.getD .skip) (con_laws_toLineS (laws_toLineS_ laws_toLine )) (gOf [(151, con_laws_toLine laws_toLine)]) [] [⟨3, lp_laws_toLineS_3, laws_toLineS_L3 laws_toLine ⟩] rfl Try.func88 rfl rfl rfl (gOf_cons h151 (gOf_nil)) (by kernel_rfl) [3] 2 (by kernel_rfl) (by kernel_rfl)
    (fun x => .cons (⟨3, lp_laws_toLineS_3, laws_toLineS_L3 laws_toLine ⟩ : Lab (OKs [.v false [.nown (.sl (.pair (.int .i64) (.int .i64))) 227]])) rfl rfl (by kernel_rfl) (by kernel_rfl) (.nil _))
theorem ok_laws_toLineS : CtrOK Try.prog 88 (con_laws_toLineS fun _ => g_laws_toLineS) := (okp_laws_toLineS _ ok_laws_toLine).nice e_laws_toLineS

theorem okp_laws_toCpu (laws_toIntS : Nat → List Int → Option (List Int)) (h89 : CtrOK Try.prog 89 (con_laws_toIntS laws_toIntS)) : CtrOK Try.prog 198 (con_laws_toCpu (laws_toCpu_ laws_toIntS )) :=
  fun_ok0 (c := Try.f198.body.getD .skip) (con_laws_toCpu (laws_toCpu_ laws_toIntS )) (gOf [(89, con_laws_toIntS laws_toIntS)]) rfl Try.func198 rfl rfl rfl (gOf_cons h89 (gOf_nil)) (by kernel_rfl) (by kernel_rfl)
theorem ok_laws_toCpu : CtrOK Try.prog 198 (con_laws_toCpu fun _ => g_laws_toCpu) := (okp_laws_toCpu _ ok_laws_toIntS).nice e_laws_toCpu

theorem okp_laws_toPart (laws_toCpu : Nat → (Int × List Int) → Option ((Int × List Int))) (h198 : CtrOK Try.prog 198 (con_laws_toCpu laws_toCpu)) : CtrOK Try.prog 150 (con_laws_toPart (laws_toPart_ laws_toCpu )) :=
  fun_ok0 (c := Try.f150.body.getD .skip) (con_laws_toPart (laws_toPart_ laws_toCpu )) (gOf [(198, con_laws_toCpu laws_toCpu)]) rfl Try.func150 rfl rfl rfl (gOf_cons h198 (gOf_nil)) (by kernel_rfl) (by kernel_rfl)
theorem ok_laws_toPart : CtrOK Try.prog 150 (con_laws_toPart fun _ => g_laws_toPart) := (okp_laws_toPart _ ok_laws_toCpu).nice e_laws_toPart

def lp_laws_toPartS_3 : LP := ⟨[(0, false, [.sl 0]), (3, false, [.sl 2]), (4, false, [.int .i64])], [.nro (.pair (.f (.int .i64)) (.pair (.pair (.f (.int .i64)) (.sl (.int .i64))) (.pair (.f (.int .i64)) (.pair (.f (.int .i64)) (.f (.int .i64)))))) 0, .dead, .nrow (.pair (.f (.int .i64)) (.pair (.pair (.f (.int .i64)) (.sl (.int .i64))) (.pair (.f (.int .i64)) (.pair (.f (.int .i64)) (.f (.int .i64)))))) 147], 2⟩
theorem okp_laws_toPartS (laws_toPart : Nat → (Int × Int × List Int × Int × Int × Int) → Option ((Int × Int × List Int × Int × Int × Int))) (h150 : CtrOK Try.prog 150 (con_laws_toPart laws_toPart)) : CtrOK Try.prog 87 (con_laws_toPartS (laws_toPartS_ laws_toPart )) :=
  fun_ok (c := Try.f87.body.getD .skip) (con_laws_toPartS (laws_toPartS_ laws_toPart )) (gOf [(150, con_laws_toPart laws_toPart)]) [] [⟨3, lp_laws_toPartS_3, laws_toPartS_L3 laws_toPart ⟩] rfl Try.func87 rfl rfl rfl (gOf_cons h150 (gOf_nil)) (by kernel_rfl) [3] 2 (by kernel_rfl) (by kernel_rfl)
    (fun x => .cons (⟨3, lp_laws_toPartS_3, laws_toPartS_L3 laws_toPart ⟩ : Lab (OKs [.v false [.nown (.pair (.f (.int .i64)) (.pair (.pair (.f (.int .i64)) (.sl (.int .i64))) (.pair (.f (.int .i64)) (.pair (.f (.int .i64)) (.f (.int .i64)))))) 147]])) rfl rfl (by kernel_rfl) (by kernel_rfl) (.nil _))
theorem ok_laws_toPartS : CtrOK Try.prog 87 (con_laws_toPartS fun _ => g_laws_toPartS) := (okp_laws_toPartS _ ok_laws_toPart).nice e_laws_toPartS

theorem okp_laws_toArena (laws_toIntS : Nat → List Int → Option (List Int)) (h89 : CtrOK Try.prog 89 (con_laws_toIntS laws_toIntS)) : CtrOK Try.prog 86 (con_laws_toArena (laws_toArena_ laws_toIntS )) :=
  fun_ok0 (c := Try.f86.body.getD .skip) (con_laws_toArena (laws_toArena_ laws_toIntS )) (gOf [(89, con_laws_toIntS laws_toIntS)]) rfl Try.func86 rfl rfl rfl (gOf_cons h89 (gOf_nil)) (by kernel_rfl) (by kernel_rfl)
theorem ok_laws_toArena : CtrOK Try.prog 86 (con_laws_toArena fun _ => g_laws_toArena) := (okp_laws_toArena _ ok_laws_toIntS).nice e_laws_toArena

def lp_laws_toStringS_3 : LP := ⟨[(0, false, [.sl 0]), (3, false, [.sl 1]), (4, false, [.int .i64])], [.ro .str 0, .row .str 9], 1⟩
theorem okp_laws_toStringS : CtrOK Try.prog 149 (con_laws_toStringS (laws_toStringS_ )) :=
  fun_ok (c := Try.f149.body.getD .skip) (con_laws_toStringS (laws_toStringS_ )) (gOf []) [] [⟨3, lp_laws_toStringS_3, laws_toStringS_L3 ⟩] rfl Try.func149 rfl rfl rfl (gOf_nil) (by kernel_rfl) [3] 1 (by kernel_rfl) (by kernel_rfl)
    (fun x => .cons (⟨3, lp_laws_toStringS_3, laws_toStringS_L3 ⟩ : Lab (OKs [.v false [.own .str 9]])) rfl rfl (by kernel_rfl) (by kernel_rfl) (.nil _))
theorem ok_laws_toStringS : CtrOK Try.prog 149 (con_laws_toStringS fun _ => g_laws_toStringS) := (okp_laws_toStringS  ).nice e_laws_toStringS

theorem okp_laws_toRule : CtrOK Try.prog 197 (con_laws_toRule (laws_toRule_ )) :=
  fun_ok0 (c := Try.f197.body.getD .skip) (con_laws_toRule (laws_toRule_ )) (gOf []) rfl Try.func197 rfl rfl rfl (gOf_nil) (by kernel_rfl) (by kernel_rfl)
theorem ok_laws_toRule : CtrOK Try.prog 197 (con_laws_toRule fun _ => g_laws_toRule) := (okp_laws_toRule  ).nice e_laws_toRule

def lp_laws_toRuleS_3 : LP := ⟨[(0, false, [.sl 0]), (3, false, [.sl 1]), (4, false, [.int .i64])], [.ro (.pair (.int .i64) (.pair (.int .i64) (.int .i64))) 0, .row (.pair (.int .i64) (.pair (.int .i64) (.int .i64))) 259], 1⟩
theorem okp_laws_toRuleS (laws_toRule : Nat → (Int × Int × Int) → Option ((Int × Int × Int))) (h197 : CtrOK Try.prog 197 (con_laws_toRule laws_toRule)) : CtrOK Try.prog 148 (con_laws_toRuleS (laws_toRuleS_ laws_toRule )) :=
  fun_ok (c := Try.f148.body.getD .skip) (con_laws_toRuleS (laws_toRuleS_ laws_toRule )) (gOf [(197, con_laws_toRule laws_toRule)]) [] [⟨3, lp_laws_toRuleS_3, laws_toRuleS_L3 laws_toRule ⟩] rfl Try.func148 rfl rfl rfl (gOf_cons h197 (gOf_nil)) (by kernel_rfl) [3] 1 (by kernel_rfl) (by kernel_rfl)
    (fun x => .cons (⟨3, lp_laws_toRuleS_3, laws_toRuleS_L3 laws_toRule ⟩ : Lab (OKs [.v false [.own (.pair (.int .i64) (.pair (.int .i64) (.int .i64))) 259]])) rfl rfl (by kernel_rfl) (by kernel_rfl) (.nil _))
theorem ok_laws_toRuleS : CtrOK Try.prog 148 (con_laws_toRuleS fun _ => g_laws_toRuleS) := (okp_laws_toRuleS _ ok_laws_toRule).nice e_laws_toRuleS

theorem okp_laws_toPort : CtrOK Try.prog 196 (con_laws_toPort (laws_toPort_ )) :=
  fun_ok0 (c := Try.f196.body.getD .skip) (con_laws_toPort (laws_toPort_ )) (gOf []) rfl Try.func196 rfl rfl rfl (gOf_nil) (by kernel_rfl) (by kernel_rfl)
theorem ok_laws_toPort : CtrOK Try.prog 196 (con_laws_toPort fun _ => g_laws_toPort) := (okp_laws_toPort  ).nice e_laws_toPort

def lp_laws_toPortS_3 : LP := ⟨[(0, false, [.sl 0]), (3, false, [.sl 1]), (4, false, [.int .i64])], [.ro (.pair (.int .i64) (.pair (.int .i64) (.pair (.int .i64) (.pair (.int .i64) (.int .i64))))) 0, .row (.pair (.int .i64) (.pair (.int .i64) (.pair (.int .i64) (.pair (.int .i64) (.int .i64))))) 247], 1⟩
theorem okp_laws_toPortS (laws_toPort : Nat → (Int × Int × Int × Int × Int) → Option ((Int × Int × Int × Int × Int))) (h196 : CtrOK Try.prog 196 (con_laws_toPort laws_toPort)) : CtrOK Try.prog 147 (con_laws_toPortS (laws_toPortS_ laws_toPort )) :=
  fun_ok (c := Try.f147.body.getD .skip) (con_laws_toPortS (laws_toPortS_ laws_toPort )) (gOf [(196, con_laws_toPort laws_toPort)]) [] [⟨3, lp_laws_toPortS_3, laws_toPortS_L3 laws_toPort ⟩] rfl Try.func147 rfl rfl rfl (gOf_cons h196 (gOf_nil)) (by kernel_rfl) [3] 1 (by kernel_rfl) (by kernel_rfl)
    (fun x => .cons (⟨3, lp_laws_toPortS_3, laws_toPortS_L3 laws_toPort ⟩ : Lab (OKs [.v false [.own (.pair (.int .i64) (.pair (.int .i64) (.pair (.int .i64) (.pair (.int .i64) (.int .i64))))) 247]])) rfl rfl (by kernel_rfl) (by kernel_rfl) (.nil _))
theorem ok_laws_toPortS : CtrOK Try.prog 147 (con_laws_toPortS fun _ => g_laws_toPortS) := (okp_laws_toPortS _ ok_laws_toPort).nice e_laws_toPortS

theorem okp_laws_toWindow : CtrOK Try.prog 195 (con_laws_toWindow (laws_toWindow_ )) :=
  fun_ok0 (c := Try.f195.body.getD .skip) (con_laws_toWindow (laws_toWindow_ )) (gOf []) rfl Try.func195 rfl rfl rfl (gOf_nil) (by kernel_rfl) (by kernel_rfl)
theorem ok_laws_toWindow : CtrOK Try.prog 195 (con_laws_toWindow fun _ => g_laws_toWindow) := (okp_laws_toWindow  ).nice e_laws_toWindow

def lp_laws_toWindowS_3 : LP := ⟨[(0, false, [.sl 0]), (3, false, [.sl 1]), (4, false, [.int .i64])], [.ro (.pair (.int .i64) (.int .i64)) 0, .row (.pair (.int .i64) (.int .i64)) 102], 1⟩
theorem okp_laws_toWindowS (laws_toWindow : Nat → (Int × Int) → Option ((Int × Int))) (h195 : CtrOK Try.prog 195 (con_laws_toWindow laws_toWindow)) : CtrOK Try.prog 146 (con_laws_toWindowS (laws_toWindowS_ laws_toWindow )) :=
  fun_ok (c := Try.f146.body.getD .skip) (con_laws_toWindowS (laws_toWindowS_ laws_toWindow )) (gOf [(195, con_laws_toWindow laws_toWindow)]) [] [⟨3, lp_laws_toWindowS_3, laws_toWindowS_L3 laws_toWindow ⟩] rfl Try.func146 rfl rfl rfl (gOf_cons h195 (gOf_nil)) (by kernel_rfl) [3] 1 (by kernel_rfl) (by kernel_rfl)
    (fun x => .cons (⟨3, lp_laws_toWindowS_3, laws_toWindowS_L3 laws_toWindow ⟩ : Lab (OKs [.v false [.own (.pair (.int .i64) (.int .i64)) 102]])) rfl rfl (by kernel_rfl) (by kernel_rfl) (.nil _))
theorem ok_laws_toWindowS : CtrOK Try.prog 146 (con_laws_toWindowS fun _ => g_laws_toWindowS) := (okp_laws_toWindowS _ ok_laws_toWindow).nice e_laws_toWindowS

theorem okp_laws_toRegion : CtrOK Try.prog 194 (con_laws_toRegion (laws_toRegion_ )) :=
  fun_ok0 (c := Try.f194.body.getD .skip) (con_laws_toRegion (laws_toRegion_ )) (gOf []) rfl Try.func194 rfl rfl rfl (gOf_nil) (by kernel_rfl) (by kernel_rfl)
theorem ok_laws_toRegion : CtrOK Try.prog 194 (con_laws_toRegion fun _ => g_laws_toRegion) := (okp_laws_toRegion  ).nice e_laws_toRegion

def lp_laws_toRegionS_3 : LP := ⟨[(0, false, [.sl 0]), (3, false, [.sl 1]), (4, false, [.int .i64])], [.ro (.pair (.int .i64) (.int .i64)) 0, .row (.pair (.int .i64) (.int .i64)) 218], 1⟩
theorem okp_laws_toRegionS (laws_toRegion : Nat → (Int × Int) → Option ((Int × Int))) (h194 : CtrOK Try.prog 194 (con_laws_toRegion laws_toRegion)) : CtrOK Try.prog 145 (con_laws_toRegionS (laws_toRegionS_ laws_toRegion )) :=
  fun_ok (c := Try.f145.body.getD .skip) (con_laws_toRegionS (laws_toRegionS_ laws_toRegion )) (gOf [(194, con_laws_toRegion laws_toRegion)]) [] [⟨3, lp_laws_toRegionS_3, laws_toRegionS_L3 laws_toRegion ⟩] rfl Try.func145 rfl rfl rfl (gOf_cons h194 (gOf_nil)) (by kernel_rfl) [3] 1 (by kernel_rfl) (by kernel_rfl)
    (fun x => .cons (⟨3, lp_laws_toRegionS_3, laws_toRegionS_L3 laws_toRegion ⟩ : Lab (OKs [.v false [.own (.pair (.int .i64) (.int .i64)) 218]])) rfl rfl (by kernel_rfl) (by kernel_rfl) (.nil _))
theorem ok_laws_toRegionS : CtrOK Try.prog 145 (con_laws_toRegionS fun _ => g_laws_toRegionS) := (okp_laws_toRegionS _ ok_laws_toRegion).nice e_laws_toRegionS

theorem okp_laws_toSetup (laws_toPortS : Nat → ((List (Int × (Int × (Int × (Int × Int)))))) → Option (((List (Int × (Int × (Int × (Int × Int)))))))) (laws_toRegionS : Nat → ((List (Int × Int))) → Option (((List (Int × Int))))) (laws_toRuleS : Nat → ((List (Int × (Int × Int)))) → Option (((List (Int × (Int × Int)))))) (laws_toStringS : Nat → List ByteArray → Option (List ByteArray)) (laws_toWindowS : Nat → ((List (Int × Int))) → Option (((List (Int × Int))))) (h147 : CtrOK Try.prog 147 (con_laws_toPortS laws_toPortS)) (h145 : CtrOK Try.prog 145 (con_laws_toRegionS laws_toRegionS)) (h148 : CtrOK Try.prog 148 (con_laws_toRuleS laws_toRuleS)) (h149 : CtrOK Try.prog 149 (con_laws_toStringS laws_toStringS)) (h146 : CtrOK Try.prog 146 (con_laws_toWindowS laws_toWindowS)) : CtrOK Try.prog 85 (con_laws_toSetup (laws_toSetup_ laws_toPortS laws_toRegionS laws_toRuleS laws_toStringS laws_toWindowS )) :=
  fun_ok0 (c := Try.f85.body.getD .skip) (con_laws_toSetup (laws_toSetup_ laws_toPortS laws_toRegionS laws_toRuleS laws_toStringS laws_toWindowS )) (gOf [(147, con_laws_toPortS laws_toPortS), (145, con_laws_toRegionS laws_toRegionS), (148, con_laws_toRuleS laws_toRuleS), (149, con_laws_toStringS laws_toStringS), (146, con_laws_toWindowS laws_toWindowS)]) rfl Try.func85 rfl rfl rfl (gOf_cons h147 (gOf_cons h145 (gOf_cons h148 (gOf_cons h149 (gOf_cons h146 (gOf_nil)))))) (by kernel_rfl) (by kernel_rfl)
theorem ok_laws_toSetup : CtrOK Try.prog 85 (con_laws_toSetup fun _ => g_laws_toSetup) := (okp_laws_toSetup _ _ _ _ _ ok_laws_toPortS ok_laws_toRegionS ok_laws_toRuleS ok_laws_toStringS ok_laws_toWindowS).nice e_laws_toSetup

theorem okp_laws_toKernel (laws_toArena : Nat → List Int → Option (List Int)) (laws_toEntryS : Nat → ((List (Int × (Int × (Int × (Int × Int)))))) → Option (((List (Int × (Int × (Int × (Int × Int)))))))) (laws_toIntS : Nat → List Int → Option (List Int)) (laws_toLineS : Nat → ((List (List (Int × Int)))) → Option (((List (List (Int × Int)))))) (laws_toPartS : Nat → ((List (Int × ((Int × (List Int)) × (Int × (Int × Int)))))) → Option (((List (Int × ((Int × (List Int)) × (Int × (Int × Int)))))))) (laws_toSetup : Nat → ((List (Int × Int)) × (List (Int × Int)) × (List (Int × (Int × (Int × (Int × Int))))) × (List (Int × (Int × Int))) × List ByteArray) → Option (((List (Int × Int)) × (List (Int × Int)) × (List (Int × (Int × (Int × (Int × Int))))) × (List (Int × (Int × Int))) × List ByteArray))) (h86 : CtrOK Try.prog 86 (con_laws_toArena laws_toArena)) (h90 : CtrOK Try.prog 90 (con_laws_toEntryS laws_toEntryS)) (h89 : CtrOK Try.prog 89 (con_laws_toIntS laws_toIntS)) (h88 : CtrOK Try.prog 88 (con_laws_toLineS laws_toLineS)) (h87 : CtrOK Try.prog 87 (con_laws_toPartS laws_toPartS)) (h85 : CtrOK Try.prog 85 (con_laws_toSetup laws_toSetup)) : CtrOK Try.prog 32 (con_laws_toKernel (laws_toKernel_ laws_toArena laws_toEntryS laws_toIntS laws_toLineS laws_toPartS laws_toSetup )) :=
  fun_ok0 (c := Try.f32.body.getD .skip) (con_laws_toKernel (laws_toKernel_ laws_toArena laws_toEntryS laws_toIntS laws_toLineS laws_toPartS laws_toSetup )) (gOf [(86, con_laws_toArena laws_toArena), (90, con_laws_toEntryS laws_toEntryS), (89, con_laws_toIntS laws_toIntS), (88, con_laws_toLineS laws_toLineS), (87, con_laws_toPartS laws_toPartS), (85, con_laws_toSetup laws_toSetup)]) rfl Try.func32 rfl rfl rfl (gOf_cons h86 (gOf_cons h90 (gOf_cons h89 (gOf_cons h88 (gOf_cons h87 (gOf_cons h85 (gOf_nil))))))) (by kernel_rfl) (by kernel_rfl)
theorem ok_laws_toKernel : CtrOK Try.prog 32 (con_laws_toKernel fun _ => g_laws_toKernel) := (okp_laws_toKernel _ _ _ _ _ _ ok_laws_toArena ok_laws_toEntryS ok_laws_toIntS ok_laws_toLineS ok_laws_toPartS ok_laws_toSetup).nice e_laws_toKernel

def lp_slices_Equal___int_int__4 : LP := ⟨[(0, false, [.sl 0]), (1, false, [.sl 1]), (12, false, [.int .i64]), (13, false, [.int .i64])], [.ro (.int .i64) 0, .ro (.int .i64) 0], 2⟩
theorem okp_slices_Equal___int_int_ : CtrOK Try.prog 93 (con_slices_Equal___int_int_ (slices_Equal___int_int__ )) :=
  fun_ok (c := Try.f93.body.getD .skip) (con_slices_Equal___int_int_ (slices_Equal___int_int__ )) (gOf []) [] [⟨4, lp_slices_Equal___int_int__4, slices_Equal___int_int__L4 ⟩] rfl Try.func93 rfl rfl rfl (gOf_nil) (by kernel_rfl) [4] 2 (by kernel_rfl) (by kernel_rfl)
    (fun x => .cons (⟨4, lp_slices_Equal___int_int__4, slices_Equal___int_int__L4 ⟩ : Lab (OKs [.v false [.bool]])) rfl rfl (by kernel_rfl) (by kernel_rfl) (.nil _))
theorem ok_slices_Equal___int_int_ : CtrOK Try.prog 93 (con_slices_Equal___int_int_ fun _ => g_slices_Equal___int_int_) := (okp_slices_Equal___int_int_  ).nice e_slices_Equal___int_int_

theorem okp_impl_samePart (slices_Equal___int_int_ : Nat → List Int × List Int → Option (Bool)) (h93 : CtrOK Try.prog 93 (con_slices_Equal___int_int_ slices_Equal___int_int_)) : CtrOK Try.prog 92 (con_impl_samePart (impl_samePart_ slices_Equal___int_int_ )) :=
  fun_ok0 (c := Try.f92.body.getD .skip) (con_impl_samePart (impl_samePart_ slices_Equal___int_int_ )) (gOf [(93, con_slices_Equal___int_int_ slices_Equal___int_int_)]) rfl Try.func92 rfl rfl rfl (gOf_cons h93 (gOf_nil)) (by kernel_rfl) (by kernel_rfl)
theorem ok_impl_samePart : CtrOK Try.prog 92 (con_impl_samePart fun _ => g_impl_samePart) := (okp_impl_samePart _ ok_slices_Equal___int_int_).nice e_impl_samePart

theorem okp_impl_copyInts : CtrOK Try.prog 155 (con_impl_copyInts (impl_copyInts_ )) :=
  fun_ok0 (c := Try.f155.body.getD .skip) (con_impl_copyInts (impl_copyInts_ )) (gOf []) rfl Try.func155 rfl rfl rfl (gOf_nil) (by kernel_rfl) (by kernel_rfl)
theorem ok_impl_copyInts : CtrOK Try.prog 155 (con_impl_copyInts fun _ => g_impl_copyInts) := (okp_impl_copyInts  ).nice e_impl_copyInts

theorem okp_impl_cellAt : CtrOK Try.prog 201 (con_impl_cellAt (impl_cellAt_ )) :=
  fun_ok0 (c := Try.f201.body.getD .skip) (con_impl_cellAt (impl_cellAt_ )) (gOf []) rfl Try.func201 rfl rfl rfl (gOf_nil) (by kernel_rfl) (by kernel_rfl)
theorem ok_impl_cellAt : CtrOK Try.prog 201 (con_impl_cellAt fun _ => g_impl_cellAt) := (okp_impl_cellAt  ).nice e_impl_cellAt

def lp_impl_CellsOf_3 : LP := ⟨[(2, false, [.ptr 1 0]), (3, false, [.ptr 2 0]), (5, false, [.sl 3]), (6, false, [.int .i64])], [.ro (.int .i64) 0, .box [.sl 0] 85, .box [.int .i64, .int .i64] 218, .row (.int .i64) 3], 1⟩
theorem okp_impl_CellsOf (impl_cellAt : Nat → List Int × (Int × Int) × Int → Option (Int)) (h201 : CtrOK Try.prog 201 (con_impl_cellAt impl_cellAt)) : CtrOK Try.prog 154 (con_impl_CellsOf (impl_CellsOf_ impl_cellAt )) :=
  fun_ok (c := Try.f154.body.getD .skip) (con_impl_CellsOf (impl_CellsOf_ impl_cellAt )) (gOf [(201, con_impl_cellAt impl_cellAt)]) [] [⟨3, lp_impl_CellsOf_3, impl_CellsOf_L3 impl_cellAt ⟩] rfl Try.func154 rfl rfl rfl (gOf_cons h201 (gOf_nil)) (by kernel_rfl) [3] 1 (by kernel_rfl) (by kernel_rfl)
    (fun x => .cons (⟨3, lp_impl_CellsOf_3, impl_CellsOf_L3 impl_cellAt ⟩ : Lab (OKs [.v false [.own (.int .i64) 3]])) rfl rfl (by kernel_rfl) (by kernel_rfl) (.nil _))
theorem ok_impl_CellsOf : CtrOK Try.prog 154 (con_impl_CellsOf fun _ => g_impl_CellsOf) := (okp_impl_CellsOf _ ok_impl_cellAt).nice e_impl_CellsOf

theorem okp_impl_copyCpu (impl_copyInts : Nat → List Int → Option (List Int)) (h155 : CtrOK Try.prog 155 (con_impl_copyInts impl_copyInts)) : CtrOK Try.prog 200 (con_impl_copyCpu (impl_copyCpu_ impl_copyInts )) :=
  fun_ok0 (c := Try.f200.body.getD .skip) (con_impl_copyCpu (impl_copyCpu_ impl_copyInts )) (gOf [(155, con_impl_copyInts impl_copyInts)]) rfl Try.func200 rfl rfl rfl (gOf_cons h155 (gOf_nil)) (by kernel_rfl) (by kernel_rfl)
theorem ok_impl_copyCpu : CtrOK Try.prog 200 (con_impl_copyCpu fun _ => g_impl_copyCpu) := (okp_impl_copyCpu _ ok_impl_copyInts).nice e_impl_copyCpu

theorem okp_impl_copyPart (impl_copyCpu : Nat → (Int × List Int) → Option ((Int × List Int))) (h200 : CtrOK Try.prog 200 (con_impl_copyCpu impl_copyCpu)) : CtrOK Try.prog 153 (con_impl_copyPart (impl_copyPart_ impl_copyCpu )) :=
  fun_ok0 (c := Try.f153.body.getD .skip) (con_impl_copyPart (impl_copyPart_ impl_copyCpu )) (gOf [(200, con_impl_copyCpu impl_copyCpu)]) rfl Try.func153 rfl rfl rfl (gOf_cons h200 (gOf_nil)) (by kernel_rfl) (by kernel_rfl)
theorem ok_impl_copyPart : CtrOK Try.prog 153 (con_impl_copyPart fun _ => g_impl_copyPart) := (okp_impl_copyPart _ ok_impl_copyCpu).nice e_impl_copyPart

theorem okp_impl_within : CtrOK Try.prog 122 (con_impl_within (impl_within_ )) :=
  fun_ok0 (c := Try.f122.body.getD .skip) (con_impl_within (impl_within_ )) (gOf []) rfl Try.func122 rfl rfl rfl (gOf_nil) (by kernel_rfl) (by kernel_rfl)
theorem ok_impl_within : CtrOK Try.prog 122 (con_impl_within fun _ => g_impl_within) := (okp_impl_within  ).nice e_impl_within

theorem okp_impl_PartView (impl_CellsOf : Nat → List Int × (Int × Int) → Option (List Int)) (impl_copyInts : Nat → List Int → Option (List Int)) (impl_copyPart : Nat → (Int × Int × List Int × Int × Int × Int) → Option ((Int × Int × List Int × Int × Int × Int))) (impl_within : Nat → Int × Int × Int → Option (Bool)) (h154 : CtrOK Try.prog 154 (con_impl_CellsOf impl_CellsOf)) (h155 : CtrOK Try.prog 155 (con_impl_copyInts impl_copyInts)) (h153 : CtrOK Try.prog 153 (con_impl_copyPart impl_copyPart)) (h122 : CtrOK Try.prog 122 (con_impl_within impl_within)) : CtrOK Try.prog 91 (con_impl_PartView (impl_PartView_ impl_CellsOf impl_copyInts impl_copyPart impl_within )) :=
  fun_ok0 (c := Try.f91.body.getD .skip) (con_impl_PartView (impl_PartView_ impl_CellsOf impl_copyInts impl_copyPart impl_within )) (gOf [(154, con_impl_CellsOf impl_CellsOf), (155, con_impl_copyInts impl_copyInts), (153, con_impl_copyPart impl_copyPart), (122, con_impl_within impl_within)]) rfl Try.func91 rfl rfl rfl (gOf_cons h154 (gOf_cons h155 (gOf_cons h153 (gOf_cons h122 (gOf_nil))))) (by kernel_rfl) (by kernel_rfl)
theorem ok_impl_PartView : CtrOK Try.prog 91 (con_impl_PartView fun _ => g_impl_PartView) := (okp_impl_PartView _ _ _ _ ok_impl_CellsOf ok_impl_copyInts ok_impl_copyPart ok_impl_within).nice e_impl_PartView

theorem okp_impl_Apart (impl_PartView : Nat → ((List (Int × Int)) × (List (Int × Int)) × (List (Int × (Int × (Int × (Int × Int))))) × (List (Int × (Int × Int))) × List ByteArray × List Int × (List (Int × ((Int × (List Int)) × (Int × (Int × Int))))) × (List (List (Int × Int))) × List Int × Int × Bool × (List (Int × (Int × (Int × (Int × Int)))))) × Int → Option ((Int × Int × List Int × Int × Int × Int) × List Int × List Int)) (impl_samePart : Nat → (Int × Int × List Int × Int × Int × Int) × (Int × Int × List Int × Int × Int × Int) → Option (Bool)) (slices_Equal___int_int_ : Nat → List Int × List Int → Option (Bool)) (h91 : CtrOK Try.prog 91 (con_impl_PartView impl_PartView)) (h92 : CtrOK Try.prog 92 (con_impl_samePart impl_samePart)) (h93 : CtrOK Try.prog 93 (con_slices_Equal___int_int_ slices_Equal___int_int_)) : CtrOK Try.prog 33 (con_impl_Apart (impl_Apart_ impl_PartView impl_samePart slices_Equal___int_int_ )) :=
  fun_ok0 (c := Try.f33.body.getD .skip) (con_impl_Apart (impl_Apart_ impl_PartView impl_samePart slices_Equal___int_int_ )) (gOf [(91, con_impl_PartView impl_PartView), (92, con_impl_samePart impl_samePart), (93, con_slices_Equal___int_int_ slices_Equal___int_int_)]) rfl Try.func33 rfl rfl rfl (gOf_cons h91 (gOf_cons h92 (gOf_cons h93 (gOf_nil)))) (by kernel_rfl) (by kernel_rfl)
theorem ok_impl_Apart : CtrOK Try.prog 33 (con_impl_Apart fun _ => g_impl_Apart) := (okp_impl_Apart _ _ _ ok_impl_PartView ok_impl_samePart ok_slices_Equal___int_int_).nice e_impl_Apart

def lp_spec_l19Same_4 : LP := ⟨[(0, false, [.sl 0]), (1, false, [.sl 1]), (5, false, [.int .i64])], [.ro (.int .i64) 0, .ro (.int .i64) 0], 2⟩
theorem okp_spec_l19Same : CtrOK Try.prog 84 (con_spec_l19Same (spec_l19Same_ )) :=
  fun_ok (c := Try.f84.body.getD .skip) (con_spec_l19Same (spec_l19Same_ )) (gOf []) [] [⟨4, lp_spec_l19Same_4, spec_l19Same_L4 ⟩] rfl Try.func84 rfl rfl rfl (gOf_nil) (by kernel_rfl) [4] 2 (by kernel_rfl) (by kernel_rfl)
    (fun x => .cons (⟨4, lp_spec_l19Same_4, spec_l19Same_L4 ⟩ : Lab (OKs [.v false [.bool]])) rfl rfl (by kernel_rfl) (by kernel_rfl) (.nil _))
theorem ok_spec_l19Same : CtrOK Try.prog 84 (con_spec_l19Same fun _ => g_spec_l19Same) := (okp_spec_l19Same  ).nice e_spec_l19Same

theorem okp_spec_l01In : CtrOK Try.prog 119 (con_spec_l01In (spec_l01In_ )) :=
  fun_ok0 (c := Try.f119.body.getD .skip) (con_spec_l01In (spec_l01In_ )) (gOf []) rfl Try.func119 rfl rfl rfl (gOf_nil) (by kernel_rfl) (by kernel_rfl)
theorem ok_spec_l01In : CtrOK Try.prog 119 (con_spec_l01In fun _ => g_spec_l01In) := (okp_spec_l01In  ).nice e_spec_l01In

theorem okp_spec_l04At (spec_l01In : Nat → Int × Int × Int → Option (Bool)) (h119 : CtrOK Try.prog 119 (con_spec_l01In spec_l01In)) : CtrOK Try.prog 193 (con_spec_l04At (spec_l04At_ spec_l01In )) :=
  fun_ok0 (c := Try.f193.body.getD .skip) (con_spec_l04At (spec_l04At_ spec_l01In )) (gOf [(119, con_spec_l01In spec_l01In)]) rfl Try.func193 rfl rfl rfl (gOf_cons h119 (gOf_nil)) (by kernel_rfl) (by kernel_rfl)
theorem ok_spec_l04At : CtrOK Try.prog 193 (con_spec_l04At fun _ => g_spec_l04At) := (okp_spec_l04At _ ok_spec_l01In).nice e_spec_l04At

def lp_spec_CellsOf_3 : LP := ⟨[(2, false, [.ptr 1 0]), (3, false, [.ptr 2 0]), (5, false, [.sl 3]), (6, false, [.int .i64])], [.ro (.int .i64) 0, .box [.sl 0] 85, .box [.int .i64, .int .i64] 218, .row (.int .i64) 3], 1⟩
theorem okp_spec_CellsOf (spec_l04At : Nat → List Int × (Int × Int) × Int → Option (Int)) (h193 : CtrOK Try.prog 193 (con_spec_l04At spec_l04At)) : CtrOK Try.prog 144 (con_spec_CellsOf (spec_CellsOf_ spec_l04At )) :=
  fun_ok (c := Try.f144.body.getD .skip) (con_spec_CellsOf (spec_CellsOf_ spec_l04At )) (gOf [(193, con_spec_l04At spec_l04At)]) [] [⟨3, lp_spec_CellsOf_3, spec_CellsOf_L3 spec_l04At ⟩] rfl Try.func144 rfl rfl rfl (gOf_cons h193 (gOf_nil)) (by kernel_rfl) [3] 1 (by kernel_rfl) (by kernel_rfl)
    (fun x => .cons (⟨3, lp_spec_CellsOf_3, spec_CellsOf_L3 spec_l04At ⟩ : Lab (OKs [.v false [.own (.int .i64) 3]])) rfl rfl (by kernel_rfl) (by kernel_rfl) (.nil _))
theorem ok_spec_CellsOf : CtrOK Try.prog 144 (con_spec_CellsOf fun _ => g_spec_CellsOf) := (okp_spec_CellsOf _ ok_spec_l04At).nice e_spec_CellsOf

theorem okp_spec_l06Copy : CtrOK Try.prog 143 (con_spec_l06Copy (spec_l06Copy_ )) :=
  fun_ok0 (c := Try.f143.body.getD .skip) (con_spec_l06Copy (spec_l06Copy_ )) (gOf []) rfl Try.func143 rfl rfl rfl (gOf_nil) (by kernel_rfl) (by kernel_rfl)
theorem ok_spec_l06Copy : CtrOK Try.prog 143 (con_spec_l06Copy fun _ => g_spec_l06Copy) := (okp_spec_l06Copy  ).nice e_spec_l06Copy

theorem okp_spec_PartView (spec_CellsOf : Nat → List Int × (Int × Int) → Option (List Int)) (spec_l01In : Nat → Int × Int × Int → Option (Bool)) (spec_l06Copy : Nat → (Int × List Int) → Option ((Int × List Int))) (h144 : CtrOK Try.prog 144 (con_spec_CellsOf spec_CellsOf)) (h119 : CtrOK Try.prog 119 (con_spec_l01In spec_l01In)) (h143 : CtrOK Try.prog 143 (con_spec_l06Copy spec_l06Copy)) : CtrOK Try.prog 83 (con_spec_PartView (spec_PartView_ spec_CellsOf spec_l01In spec_l06Copy )) :=
  fun_ok0 (c := Try.f83.body.getD .skip) (con_spec_PartView (spec_PartView_ spec_CellsOf spec_l01In spec_l06Copy )) (gOf [(144, con_spec_CellsOf spec_CellsOf), (119, con_spec_l01In spec_l01In), (143, con_spec_l06Copy spec_l06Copy)]) rfl Try.func83 rfl rfl rfl (gOf_cons h144 (gOf_cons h119 (gOf_cons h143 (gOf_nil)))) (by kernel_rfl) (by kernel_rfl)
theorem ok_spec_PartView : CtrOK Try.prog 83 (con_spec_PartView fun _ => g_spec_PartView) := (okp_spec_PartView _ _ _ ok_spec_CellsOf ok_spec_l01In ok_spec_l06Copy).nice e_spec_PartView

theorem okp_spec_Apart (spec_PartView : Nat → ((List (Int × Int)) × (List (Int × Int)) × (List (Int × (Int × (Int × (Int × Int))))) × (List (Int × (Int × Int))) × List ByteArray × List Int × (List (Int × ((Int × (List Int)) × (Int × (Int × Int))))) × (List (List (Int × Int))) × List Int × Int × Bool × (List (Int × (Int × (Int × (Int × Int)))))) × Int → Option ((Int × Int × List Int × Int × Int × Int) × List Int × List Int)) (spec_l19Same : Nat → List Int × List Int → Option (Bool)) (h83 : CtrOK Try.prog 83 (con_spec_PartView spec_PartView)) (h84 : CtrOK Try.prog 84 (con_spec_l19Same spec_l19Same)) : CtrOK Try.prog 31 (con_spec_Apart (spec_Apart_ spec_PartView spec_l19Same )) :=
  fun_ok0 (c := Try.f31.body.getD .skip) (con_spec_Apart (spec_Apart_ spec_PartView spec_l19Same )) (gOf [(83, con_spec_PartView spec_PartView), (84, con_spec_l19Same spec_l19Same)]) rfl Try.func31 rfl rfl rfl (gOf_cons h83 (gOf_cons h84 (gOf_nil))) (by kernel_rfl) (by kernel_rfl)
theorem ok_spec_Apart : CtrOK Try.prog 31 (con_spec_Apart fun _ => g_spec_Apart) := (okp_spec_Apart _ _ ok_spec_PartView ok_spec_l19Same).nice e_spec_Apart

theorem okp_laws_FnExactApart (impl_Apart : Nat → ((List (Int × Int)) × (List (Int × Int)) × (List (Int × (Int × (Int × (Int × Int))))) × (List (Int × (Int × Int))) × List ByteArray × List Int × (List (Int × ((Int × (List Int)) × (Int × (Int × Int))))) × (List (List (Int × Int))) × List Int × Int × Bool × (List (Int × (Int × (Int × (Int × Int)))))) × ((List (Int × Int)) × (List (Int × Int)) × (List (Int × (Int × (Int × (Int × Int))))) × (List (Int × (Int × Int))) × List ByteArray × List Int × (List (Int × ((Int × (List Int)) × (Int × (Int × Int))))) × (List (List (Int × Int))) × List Int × Int × Bool × (List (Int × (Int × (Int × (Int × Int)))))) × Int → Option (Bool)) (laws_eqKernel : Nat → ((List (Int × Int)) × (List (Int × Int)) × (List (Int × (Int × (Int × (Int × Int))))) × (List (Int × (Int × Int))) × List ByteArray × List Int × (List (Int × ((Int × (List Int)) × (Int × (Int × Int))))) × (List (List (Int × Int))) × List Int × Int × Bool × (List (Int × (Int × (Int × (Int × Int)))))) × ((List (Int × Int)) × (List (Int × Int)) × (List (Int × (Int × (Int × (Int × Int))))) × (List (Int × (Int × Int))) × List ByteArray × List Int × (List (Int × ((Int × (List Int)) × (Int × (Int × Int))))) × (List (List (Int × Int))) × List Int × Int × Bool × (List (Int × (Int × (Int × (Int × Int)))))) → Option (Bool)) (laws_szKernel : Nat → ((List (Int × Int)) × (List (Int × Int)) × (List (Int × (Int × (Int × (Int × Int))))) × (List (Int × (Int × Int))) × List ByteArray × List Int × (List (Int × ((Int × (List Int)) × (Int × (Int × Int))))) × (List (List (Int × Int))) × List Int × Int × Bool × (List (Int × (Int × (Int × (Int × Int)))))) × Int → Option (Int)) (laws_toKernel : Nat → ((List (Int × Int)) × (List (Int × Int)) × (List (Int × (Int × (Int × (Int × Int))))) × (List (Int × (Int × Int))) × List ByteArray × List Int × (List (Int × ((Int × (List Int)) × (Int × (Int × Int))))) × (List (List (Int × Int))) × List Int × Int × Bool × (List (Int × (Int × (Int × (Int × Int)))))) → Option (((List (Int × Int)) × (List (Int × Int)) × (List (Int × (Int × (Int × (Int × Int))))) × (List (Int × (Int × Int))) × List ByteArray × List Int × (List (Int × ((Int × (List Int)) × (Int × (Int × Int))))) × (List (List (Int × Int))) × List Int × Int × Bool × (List (Int × (Int × (Int × (Int × Int)))))))) (spec_Apart : Nat → ((List (Int × Int)) × (List (Int × Int)) × (List (Int × (Int × (Int × (Int × Int))))) × (List (Int × (Int × Int))) × List ByteArray × List Int × (List (Int × ((Int × (List Int)) × (Int × (Int × Int))))) × (List (List (Int × Int))) × List Int × Int × Bool × (List (Int × (Int × (Int × (Int × Int)))))) × ((List (Int × Int)) × (List (Int × Int)) × (List (Int × (Int × (Int × (Int × Int))))) × (List (Int × (Int × Int))) × List ByteArray × List Int × (List (Int × ((Int × (List Int)) × (Int × (Int × Int))))) × (List (List (Int × Int))) × List Int × Int × Bool × (List (Int × (Int × (Int × (Int × Int)))))) × Int → Option (Bool)) (h33 : CtrOK Try.prog 33 (con_impl_Apart impl_Apart)) (h34 : CtrOK Try.prog 34 (con_laws_eqKernel laws_eqKernel)) (h30 : CtrOK Try.prog 30 (con_laws_szKernel laws_szKernel)) (h32 : CtrOK Try.prog 32 (con_laws_toKernel laws_toKernel)) (h31 : CtrOK Try.prog 31 (con_spec_Apart spec_Apart)) : CtrOK Try.prog 6 (con_laws_FnExactApart (laws_FnExactApart_ impl_Apart laws_eqKernel laws_szKernel laws_toKernel spec_Apart )) :=
  fun_ok0 (c := Try.f6.body.getD .skip) (con_laws_FnExactApart (laws_FnExactApart_ impl_Apart laws_eqKernel laws_szKernel laws_toKernel spec_Apart )) (gOf [(33, con_impl_Apart impl_Apart), (34, con_laws_eqKernel laws_eqKernel), (30, con_laws_szKernel laws_szKernel), (32, con_laws_toKernel laws_toKernel), (31, con_spec_Apart spec_Apart)]) rfl Try.func6 rfl rfl rfl (gOf_cons h33 (gOf_cons h34 (gOf_cons h30 (gOf_cons h32 (gOf_cons h31 (gOf_nil)))))) (by kernel_rfl) (by kernel_rfl)
theorem ok_laws_FnExactApart : CtrOK Try.prog 6 (con_laws_FnExactApart fun _ => g_laws_FnExactApart) := (okp_laws_FnExactApart _ _ _ _ _ ok_impl_Apart ok_laws_eqKernel ok_laws_szKernel ok_laws_toKernel ok_spec_Apart).nice e_laws_FnExactApart

end Go.Sx.T
