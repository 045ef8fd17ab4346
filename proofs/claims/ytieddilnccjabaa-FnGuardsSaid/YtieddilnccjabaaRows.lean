/-
  No cell of these rows narrows 'for every input' (looked for: loops, veiled, ifaces, maps, wideKeys, modest, calm, conditions, laid).
  DERIVED. THE GIVEN ROWS OF THIS SEAT. 12 by the template 'for every input the law returns true; each argument reads behind the call as it read before'; 0 by the template 'total and deterministic' (their statements: YtieddilnccjabaaTotals.lean).
  GIVEN WITH THE SEED: the statements are not yours to turn. If you find one false, say at which input.
  Laid BY PROGRAM, IN A SANDBOX (cutbox-rows.mjs): the forced cells as the released guide's own fill.sh prints them over the translation d9cc4133ffb918f6… (all of the seat's roots in one cut). By AI agents, Wed Nov 11 2026. No macro, syntax, notation, axiom, sorry.
-/
import Derived.Test.YtieddilnccjabaaChecked
import GoSem.Claim
import GoSem.ClaimJoined
import GoSem.ClaimMapViews
import Derived.JoinedTies
import Derived.KernelRfl
namespace Go.Proofs.Ytieddilnccjabaa
/- THE CELL 'sum', in the pinned program and in every row, IS THE sha256 OF THE DUMP (.gsa) THAT YtieddilnccjabaaProg.lean LOADS. Nothing in Lean hashes anything: it is a label: what it is worth is what the hold of that sum in a sandbox is worth. -/
noncomputable def Try.pinned : Pinned := { name := "ytieddilnccjabaa", sum := "d9cc4133ffb918f66b8806c206723f70102755e91deacf4b72dd81ee8fba6218", checked := Try.checked }
namespace Rows
def none {H : Type} : Left H := { results := [], args := [] }

/-- 'laws.FnExactMenuNew': WHATEVER THE INPUT: true; the input reads as it did. -/
def fnExactMenuNewSpec : ChangeSpec := { name := "fnExactMenuNew", fn := fun _ => fun
  | [] => { results := [.lit (.bool true)], args := [] }
  | _ => none }
def fnExactMenuNewRow : OpenClaim := { program := "ytieddilnccjabaa", sum := "d9cc4133ffb918f66b8806c206723f70102755e91deacf4b72dd81ee8fba6218", func := "loop.example/g00200/laws.FnExactMenuNew", spec := "fnExactMenuNew", apart := false }
def FnExactMenuNewSaid : Prop := fnExactMenuNewRow.holds Try.pinned (OpenSpec.ofChange fnExactMenuNewSpec)

/-- ITS FALSE NEIGHBOUR: 'it returns false'. Refute it at one input. -/
def fnExactMenuNewWrong : ChangeSpec := { name := "fnExactMenuNew", fn := fun _ => fun
  | [] => { results := [.lit (.bool false)], args := [] }
  | _ => none }
def FnExactMenuNewWrongFalsely : Prop := fnExactMenuNewRow.holds Try.pinned (OpenSpec.ofChange fnExactMenuNewWrong)

/-- 'laws.FnExactInOk': WHATEVER THE INPUT: true; the input reads as it did. -/
def fnExactInOkSpec : ChangeSpec := { name := "fnExactInOk", fn := fun _ => fun
  | [d] => { results := [.lit (.bool true)], args := [d] }
  | _ => none }
def fnExactInOkRow : OpenClaim := { program := "ytieddilnccjabaa", sum := "d9cc4133ffb918f66b8806c206723f70102755e91deacf4b72dd81ee8fba6218", func := "loop.example/g00200/laws.FnExactInOk", spec := "fnExactInOk", apart := false }
def FnExactInOkSaid : Prop := fnExactInOkRow.holds Try.pinned (OpenSpec.ofChange fnExactInOkSpec)

/-- ITS FALSE NEIGHBOUR: 'it returns false'. Refute it at one input. -/
def fnExactInOkWrong : ChangeSpec := { name := "fnExactInOk", fn := fun _ => fun
  | [d] => { results := [.lit (.bool false)], args := [d] }
  | _ => none }
def FnExactInOkWrongFalsely : Prop := fnExactInOkRow.holds Try.pinned (OpenSpec.ofChange fnExactInOkWrong)

/-- 'laws.FnExactPumpNew': WHATEVER THE INPUT: true; the input reads as it did. -/
def fnExactPumpNewSpec : ChangeSpec := { name := "fnExactPumpNew", fn := fun _ => fun
  | [] => { results := [.lit (.bool true)], args := [] }
  | _ => none }
def fnExactPumpNewRow : OpenClaim := { program := "ytieddilnccjabaa", sum := "d9cc4133ffb918f66b8806c206723f70102755e91deacf4b72dd81ee8fba6218", func := "loop.example/g00200/laws.FnExactPumpNew", spec := "fnExactPumpNew", apart := false }
def FnExactPumpNewSaid : Prop := fnExactPumpNewRow.holds Try.pinned (OpenSpec.ofChange fnExactPumpNewSpec)

/-- ITS FALSE NEIGHBOUR: 'it returns false'. Refute it at one input. -/
def fnExactPumpNewWrong : ChangeSpec := { name := "fnExactPumpNew", fn := fun _ => fun
  | [] => { results := [.lit (.bool false)], args := [] }
  | _ => none }
def FnExactPumpNewWrongFalsely : Prop := fnExactPumpNewRow.holds Try.pinned (OpenSpec.ofChange fnExactPumpNewWrong)

/-- 'laws.FnExactMenuOk': WHATEVER THE INPUT: true; the input reads as it did. -/
def fnExactMenuOkSpec : ChangeSpec := { name := "fnExactMenuOk", fn := fun _ => fun
  | [d] => { results := [.lit (.bool true)], args := [d] }
  | _ => none }
def fnExactMenuOkRow : OpenClaim := { program := "ytieddilnccjabaa", sum := "d9cc4133ffb918f66b8806c206723f70102755e91deacf4b72dd81ee8fba6218", func := "loop.example/g00200/laws.FnExactMenuOk", spec := "fnExactMenuOk", apart := false }
def FnExactMenuOkSaid : Prop := fnExactMenuOkRow.holds Try.pinned (OpenSpec.ofChange fnExactMenuOkSpec)

/-- ITS FALSE NEIGHBOUR: 'it returns false'. Refute it at one input. -/
def fnExactMenuOkWrong : ChangeSpec := { name := "fnExactMenuOk", fn := fun _ => fun
  | [d] => { results := [.lit (.bool false)], args := [d] }
  | _ => none }
def FnExactMenuOkWrongFalsely : Prop := fnExactMenuOkRow.holds Try.pinned (OpenSpec.ofChange fnExactMenuOkWrong)

/-- 'laws.FnExactPumpOk': WHATEVER THE INPUT: true; the input reads as it did. -/
def fnExactPumpOkSpec : ChangeSpec := { name := "fnExactPumpOk", fn := fun _ => fun
  | [d] => { results := [.lit (.bool true)], args := [d] }
  | _ => none }
def fnExactPumpOkRow : OpenClaim := { program := "ytieddilnccjabaa", sum := "d9cc4133ffb918f66b8806c206723f70102755e91deacf4b72dd81ee8fba6218", func := "loop.example/g00200/laws.FnExactPumpOk", spec := "fnExactPumpOk", apart := false }
def FnExactPumpOkSaid : Prop := fnExactPumpOkRow.holds Try.pinned (OpenSpec.ofChange fnExactPumpOkSpec)

/-- ITS FALSE NEIGHBOUR: 'it returns false'. Refute it at one input. -/
def fnExactPumpOkWrong : ChangeSpec := { name := "fnExactPumpOk", fn := fun _ => fun
  | [d] => { results := [.lit (.bool false)], args := [d] }
  | _ => none }
def FnExactPumpOkWrongFalsely : Prop := fnExactPumpOkRow.holds Try.pinned (OpenSpec.ofChange fnExactPumpOkWrong)

/-- 'laws.FnExactStopsOnAlarm': WHATEVER THE INPUT: true; the input reads as it did. -/
def fnExactStopsOnAlarmSpec : ChangeSpec := { name := "fnExactStopsOnAlarm", fn := fun _ => fun
  | [d] => { results := [.lit (.bool true)], args := [d] }
  | _ => none }
def fnExactStopsOnAlarmRow : OpenClaim := { program := "ytieddilnccjabaa", sum := "d9cc4133ffb918f66b8806c206723f70102755e91deacf4b72dd81ee8fba6218", func := "loop.example/g00200/laws.FnExactStopsOnAlarm", spec := "fnExactStopsOnAlarm", apart := false }
def FnExactStopsOnAlarmSaid : Prop := fnExactStopsOnAlarmRow.holds Try.pinned (OpenSpec.ofChange fnExactStopsOnAlarmSpec)

/-- ITS FALSE NEIGHBOUR: 'it returns false'. Refute it at one input. -/
def fnExactStopsOnAlarmWrong : ChangeSpec := { name := "fnExactStopsOnAlarm", fn := fun _ => fun
  | [d] => { results := [.lit (.bool false)], args := [d] }
  | _ => none }
def FnExactStopsOnAlarmWrongFalsely : Prop := fnExactStopsOnAlarmRow.holds Try.pinned (OpenSpec.ofChange fnExactStopsOnAlarmWrong)

/-- 'laws.FnGuards': WHATEVER THE INPUT: true; the input reads as it did. -/
def fnGuardsSpec : ChangeSpec := { name := "fnGuards", fn := fun _ => fun
  | [d] => { results := [.lit (.bool true)], args := [d] }
  | _ => none }
def fnGuardsRow : OpenClaim := { program := "ytieddilnccjabaa", sum := "d9cc4133ffb918f66b8806c206723f70102755e91deacf4b72dd81ee8fba6218", func := "loop.example/g00200/laws.FnGuards", spec := "fnGuards", apart := false }
def FnGuardsSaid : Prop := fnGuardsRow.holds Try.pinned (OpenSpec.ofChange fnGuardsSpec)

/-- ITS FALSE NEIGHBOUR: 'it returns false'. Refute it at one input. -/
def fnGuardsWrong : ChangeSpec := { name := "fnGuards", fn := fun _ => fun
  | [d] => { results := [.lit (.bool false)], args := [d] }
  | _ => none }
def FnGuardsWrongFalsely : Prop := fnGuardsRow.holds Try.pinned (OpenSpec.ofChange fnGuardsWrong)

/-- 'laws.FnExactRoomOf': WHATEVER THE INPUT: true; the input reads as it did. -/
def fnExactRoomOfSpec : ChangeSpec := { name := "fnExactRoomOf", fn := fun _ => fun
  | [d] => { results := [.lit (.bool true)], args := [d] }
  | _ => none }
def fnExactRoomOfRow : OpenClaim := { program := "ytieddilnccjabaa", sum := "d9cc4133ffb918f66b8806c206723f70102755e91deacf4b72dd81ee8fba6218", func := "loop.example/g00200/laws.FnExactRoomOf", spec := "fnExactRoomOf", apart := false }
def FnExactRoomOfSaid : Prop := fnExactRoomOfRow.holds Try.pinned (OpenSpec.ofChange fnExactRoomOfSpec)

/-- ITS FALSE NEIGHBOUR: 'it returns false'. Refute it at one input. -/
def fnExactRoomOfWrong : ChangeSpec := { name := "fnExactRoomOf", fn := fun _ => fun
  | [d] => { results := [.lit (.bool false)], args := [d] }
  | _ => none }
def FnExactRoomOfWrongFalsely : Prop := fnExactRoomOfRow.holds Try.pinned (OpenSpec.ofChange fnExactRoomOfWrong)

/-- 'laws.FnExactTotalOf': WHATEVER THE INPUT: true; the input reads as it did. -/
def fnExactTotalOfSpec : ChangeSpec := { name := "fnExactTotalOf", fn := fun _ => fun
  | [d] => { results := [.lit (.bool true)], args := [d] }
  | _ => none }
def fnExactTotalOfRow : OpenClaim := { program := "ytieddilnccjabaa", sum := "d9cc4133ffb918f66b8806c206723f70102755e91deacf4b72dd81ee8fba6218", func := "loop.example/g00200/laws.FnExactTotalOf", spec := "fnExactTotalOf", apart := false }
def FnExactTotalOfSaid : Prop := fnExactTotalOfRow.holds Try.pinned (OpenSpec.ofChange fnExactTotalOfSpec)

/-- ITS FALSE NEIGHBOUR: 'it returns false'. Refute it at one input. -/
def fnExactTotalOfWrong : ChangeSpec := { name := "fnExactTotalOf", fn := fun _ => fun
  | [d] => { results := [.lit (.bool false)], args := [d] }
  | _ => none }
def FnExactTotalOfWrongFalsely : Prop := fnExactTotalOfRow.holds Try.pinned (OpenSpec.ofChange fnExactTotalOfWrong)

/-- 'laws.FnExactWithinLimits': WHATEVER THE INPUT: true; the input reads as it did. -/
def fnExactWithinLimitsSpec : ChangeSpec := { name := "fnExactWithinLimits", fn := fun _ => fun
  | [d] => { results := [.lit (.bool true)], args := [d] }
  | _ => none }
def fnExactWithinLimitsRow : OpenClaim := { program := "ytieddilnccjabaa", sum := "d9cc4133ffb918f66b8806c206723f70102755e91deacf4b72dd81ee8fba6218", func := "loop.example/g00200/laws.FnExactWithinLimits", spec := "fnExactWithinLimits", apart := false }
def FnExactWithinLimitsSaid : Prop := fnExactWithinLimitsRow.holds Try.pinned (OpenSpec.ofChange fnExactWithinLimitsSpec)

/-- ITS FALSE NEIGHBOUR: 'it returns false'. Refute it at one input. -/
def fnExactWithinLimitsWrong : ChangeSpec := { name := "fnExactWithinLimits", fn := fun _ => fun
  | [d] => { results := [.lit (.bool false)], args := [d] }
  | _ => none }
def FnExactWithinLimitsWrongFalsely : Prop := fnExactWithinLimitsRow.holds Try.pinned (OpenSpec.ofChange fnExactWithinLimitsWrong)

/-- 'laws.FnExactGuardOk': WHATEVER THE INPUT: true; the input reads as it did. -/
def fnExactGuardOkSpec : ChangeSpec := { name := "fnExactGuardOk", fn := fun _ => fun
  | [d] => { results := [.lit (.bool true)], args := [d] }
  | _ => none }
def fnExactGuardOkRow : OpenClaim := { program := "ytieddilnccjabaa", sum := "d9cc4133ffb918f66b8806c206723f70102755e91deacf4b72dd81ee8fba6218", func := "loop.example/g00200/laws.FnExactGuardOk", spec := "fnExactGuardOk", apart := false }
def FnExactGuardOkSaid : Prop := fnExactGuardOkRow.holds Try.pinned (OpenSpec.ofChange fnExactGuardOkSpec)

/-- ITS FALSE NEIGHBOUR: 'it returns false'. Refute it at one input. -/
def fnExactGuardOkWrong : ChangeSpec := { name := "fnExactGuardOk", fn := fun _ => fun
  | [d] => { results := [.lit (.bool false)], args := [d] }
  | _ => none }
def FnExactGuardOkWrongFalsely : Prop := fnExactGuardOkRow.holds Try.pinned (OpenSpec.ofChange fnExactGuardOkWrong)

/-- 'laws.FnExactWants': WHATEVER THE INPUT: true; the input reads as it did. -/
def fnExactWantsSpec : ChangeSpec := { name := "fnExactWants", fn := fun _ => fun
  | [d] => { results := [.lit (.bool true)], args := [d] }
  | _ => none }
def fnExactWantsRow : OpenClaim := { program := "ytieddilnccjabaa", sum := "d9cc4133ffb918f66b8806c206723f70102755e91deacf4b72dd81ee8fba6218", func := "loop.example/g00200/laws.FnExactWants", spec := "fnExactWants", apart := false }
def FnExactWantsSaid : Prop := fnExactWantsRow.holds Try.pinned (OpenSpec.ofChange fnExactWantsSpec)

/-- ITS FALSE NEIGHBOUR: 'it returns false'. Refute it at one input. -/
def fnExactWantsWrong : ChangeSpec := { name := "fnExactWants", fn := fun _ => fun
  | [d] => { results := [.lit (.bool false)], args := [d] }
  | _ => none }
def FnExactWantsWrongFalsely : Prop := fnExactWantsRow.holds Try.pinned (OpenSpec.ofChange fnExactWantsWrong)

/- THE SECOND FORM. 'bulk': how many values and letters a reading holds, each counted each time it is reached (what is shared counts as often as it is met; a slice's spare places count too). A statement '..UptoSaid' is the law's where the arguments, and the package variables that the reading takes, are together of bulk at most 1048576: NARROWER than '..Said'. Prove '..Said' where nothing that the law and all that it calls make is longer than what came in: it says more and counts as full. Else prove '..UptoSaid'. A law counts once. -/
mutual
def uptoBulk {H : Type} : DataW H → Nat
  | .lit (.string bytes) => bytes.length + 1
  | .lit _ => 1
  | .nil => 1
  | .ptr d => uptoBulk d + 1
  | .slice elems spare => uptoBulkAll elems + uptoBulkAll spare + 1
  | .agg parts => uptoBulkAll parts + 1
  | .iface _ d => uptoBulk d + 1
  | .map entries => uptoBulkEntries entries + 1
  | .held _ => 1
def uptoBulkAll {H : Type} : List (DataW H) → Nat
  | [] => 0
  | d :: r => uptoBulk d + uptoBulkAll r
def uptoBulkEntries {H : Type} : List (Lit × DataW H) → Nat
  | [] => 0
  | x :: r => uptoBulkEntry x + uptoBulkEntries r
def uptoBulkEntry {H : Type} : Lit × DataW H → Nat
  | (.string bytes, d) => bytes.length + uptoBulk d + 1
  | (_, d) => uptoBulk d + 1
 end
def uptoSmall : (H : Type) → List (DataW H) → Bool := fun _ ds => decide (uptoBulkAll ds ≤ 1048576)
def OpenSpec.upto (s : _root_.Go.ChangeSpec) : _root_.Go.OpenSpec := { _root_.Go.OpenSpec.ofChange s with cond := some uptoSmall }

/-- 'laws.FnExactMenuNew', WHERE WHAT IT READS IS OF BULK AT MOST 1048576: true; the input reads as it did. -/
def fnExactMenuNewUptoRow : OpenClaim := { program := "ytieddilnccjabaa", sum := "d9cc4133ffb918f66b8806c206723f70102755e91deacf4b72dd81ee8fba6218", func := "loop.example/g00200/laws.FnExactMenuNew", spec := "fnExactMenuNew", apart := false, narrowed := true }
def FnExactMenuNewUptoSaid : Prop := fnExactMenuNewUptoRow.holds Try.pinned (OpenSpec.upto fnExactMenuNewSpec)

/-- 'laws.FnExactInOk', WHERE WHAT IT READS IS OF BULK AT MOST 1048576: true; the input reads as it did. -/
def fnExactInOkUptoRow : OpenClaim := { program := "ytieddilnccjabaa", sum := "d9cc4133ffb918f66b8806c206723f70102755e91deacf4b72dd81ee8fba6218", func := "loop.example/g00200/laws.FnExactInOk", spec := "fnExactInOk", apart := false, narrowed := true }
def FnExactInOkUptoSaid : Prop := fnExactInOkUptoRow.holds Try.pinned (OpenSpec.upto fnExactInOkSpec)

/-- 'laws.FnExactPumpNew', WHERE WHAT IT READS IS OF BULK AT MOST 1048576: true; the input reads as it did. -/
def fnExactPumpNewUptoRow : OpenClaim := { program := "ytieddilnccjabaa", sum := "d9cc4133ffb918f66b8806c206723f70102755e91deacf4b72dd81ee8fba6218", func := "loop.example/g00200/laws.FnExactPumpNew", spec := "fnExactPumpNew", apart := false, narrowed := true }
def FnExactPumpNewUptoSaid : Prop := fnExactPumpNewUptoRow.holds Try.pinned (OpenSpec.upto fnExactPumpNewSpec)

/-- 'laws.FnExactMenuOk', WHERE WHAT IT READS IS OF BULK AT MOST 1048576: true; the input reads as it did. -/
def fnExactMenuOkUptoRow : OpenClaim := { program := "ytieddilnccjabaa", sum := "d9cc4133ffb918f66b8806c206723f70102755e91deacf4b72dd81ee8fba6218", func := "loop.example/g00200/laws.FnExactMenuOk", spec := "fnExactMenuOk", apart := false, narrowed := true }
def FnExactMenuOkUptoSaid : Prop := fnExactMenuOkUptoRow.holds Try.pinned (OpenSpec.upto fnExactMenuOkSpec)

/-- 'laws.FnExactPumpOk', WHERE WHAT IT READS IS OF BULK AT MOST 1048576: true; the input reads as it did. -/
def fnExactPumpOkUptoRow : OpenClaim := { program := "ytieddilnccjabaa", sum := "d9cc4133ffb918f66b8806c206723f70102755e91deacf4b72dd81ee8fba6218", func := "loop.example/g00200/laws.FnExactPumpOk", spec := "fnExactPumpOk", apart := false, narrowed := true }
def FnExactPumpOkUptoSaid : Prop := fnExactPumpOkUptoRow.holds Try.pinned (OpenSpec.upto fnExactPumpOkSpec)

/-- 'laws.FnExactStopsOnAlarm', WHERE WHAT IT READS IS OF BULK AT MOST 1048576: true; the input reads as it did. -/
def fnExactStopsOnAlarmUptoRow : OpenClaim := { program := "ytieddilnccjabaa", sum := "d9cc4133ffb918f66b8806c206723f70102755e91deacf4b72dd81ee8fba6218", func := "loop.example/g00200/laws.FnExactStopsOnAlarm", spec := "fnExactStopsOnAlarm", apart := false, narrowed := true }
def FnExactStopsOnAlarmUptoSaid : Prop := fnExactStopsOnAlarmUptoRow.holds Try.pinned (OpenSpec.upto fnExactStopsOnAlarmSpec)

/-- 'laws.FnGuards', WHERE WHAT IT READS IS OF BULK AT MOST 1048576: true; the input reads as it did. -/
def fnGuardsUptoRow : OpenClaim := { program := "ytieddilnccjabaa", sum := "d9cc4133ffb918f66b8806c206723f70102755e91deacf4b72dd81ee8fba6218", func := "loop.example/g00200/laws.FnGuards", spec := "fnGuards", apart := false, narrowed := true }
def FnGuardsUptoSaid : Prop := fnGuardsUptoRow.holds Try.pinned (OpenSpec.upto fnGuardsSpec)

/-- 'laws.FnExactRoomOf', WHERE WHAT IT READS IS OF BULK AT MOST 1048576: true; the input reads as it did. -/
def fnExactRoomOfUptoRow : OpenClaim := { program := "ytieddilnccjabaa", sum := "d9cc4133ffb918f66b8806c206723f70102755e91deacf4b72dd81ee8fba6218", func := "loop.example/g00200/laws.FnExactRoomOf", spec := "fnExactRoomOf", apart := false, narrowed := true }
def FnExactRoomOfUptoSaid : Prop := fnExactRoomOfUptoRow.holds Try.pinned (OpenSpec.upto fnExactRoomOfSpec)

/-- 'laws.FnExactTotalOf', WHERE WHAT IT READS IS OF BULK AT MOST 1048576: true; the input reads as it did. -/
def fnExactTotalOfUptoRow : OpenClaim := { program := "ytieddilnccjabaa", sum := "d9cc4133ffb918f66b8806c206723f70102755e91deacf4b72dd81ee8fba6218", func := "loop.example/g00200/laws.FnExactTotalOf", spec := "fnExactTotalOf", apart := false, narrowed := true }
def FnExactTotalOfUptoSaid : Prop := fnExactTotalOfUptoRow.holds Try.pinned (OpenSpec.upto fnExactTotalOfSpec)

/-- 'laws.FnExactWithinLimits', WHERE WHAT IT READS IS OF BULK AT MOST 1048576: true; the input reads as it did. -/
def fnExactWithinLimitsUptoRow : OpenClaim := { program := "ytieddilnccjabaa", sum := "d9cc4133ffb918f66b8806c206723f70102755e91deacf4b72dd81ee8fba6218", func := "loop.example/g00200/laws.FnExactWithinLimits", spec := "fnExactWithinLimits", apart := false, narrowed := true }
def FnExactWithinLimitsUptoSaid : Prop := fnExactWithinLimitsUptoRow.holds Try.pinned (OpenSpec.upto fnExactWithinLimitsSpec)

/-- 'laws.FnExactGuardOk', WHERE WHAT IT READS IS OF BULK AT MOST 1048576: true; the input reads as it did. -/
def fnExactGuardOkUptoRow : OpenClaim := { program := "ytieddilnccjabaa", sum := "d9cc4133ffb918f66b8806c206723f70102755e91deacf4b72dd81ee8fba6218", func := "loop.example/g00200/laws.FnExactGuardOk", spec := "fnExactGuardOk", apart := false, narrowed := true }
def FnExactGuardOkUptoSaid : Prop := fnExactGuardOkUptoRow.holds Try.pinned (OpenSpec.upto fnExactGuardOkSpec)

/-- 'laws.FnExactWants', WHERE WHAT IT READS IS OF BULK AT MOST 1048576: true; the input reads as it did. -/
def fnExactWantsUptoRow : OpenClaim := { program := "ytieddilnccjabaa", sum := "d9cc4133ffb918f66b8806c206723f70102755e91deacf4b72dd81ee8fba6218", func := "loop.example/g00200/laws.FnExactWants", spec := "fnExactWants", apart := false, narrowed := true }
def FnExactWantsUptoSaid : Prop := fnExactWantsUptoRow.holds Try.pinned (OpenSpec.upto fnExactWantsSpec)

end Rows
end Go.Proofs.Ytieddilnccjabaa
