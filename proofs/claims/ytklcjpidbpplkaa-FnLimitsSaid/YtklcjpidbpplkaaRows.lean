/-
  No cell of these rows narrows 'for every input' (looked for: loops, veiled, ifaces, maps, wideKeys, modest, calm, conditions, laid).
  DERIVED. THE GIVEN ROWS OF THIS SEAT. 11 by the template 'for every input the law returns true; each argument reads behind the call as it read before'; 0 by the template 'total and deterministic' (their statements: YtklcjpidbpplkaaTotals.lean).
  GIVEN WITH THE SEED: the statements are not yours to turn. If you find one false, say at which input.
  Laid BY PROGRAM, IN A SANDBOX (cutbox-rows.mjs): the forced cells as the released guide's own fill.sh prints them over the translation 94157bfe3f01e8d6… (all of the seat's roots in one cut). By AI agents, Wed Nov 11 2026. No macro, syntax, notation, axiom, sorry.
-/
import Derived.Test.YtklcjpidbpplkaaChecked
import GoSem.Claim
import GoSem.ClaimJoined
import GoSem.ClaimMapViews
import Derived.JoinedTies
import Derived.KernelRfl
namespace Go.Proofs.Ytklcjpidbpplkaa
/- THE CELL 'sum', in the pinned program and in every row, IS THE sha256 OF THE DUMP (.gsa) THAT YtklcjpidbpplkaaProg.lean LOADS. Nothing in Lean hashes anything: it is a label: what it is worth is what the hold of that sum in a sandbox is worth. -/
noncomputable def Try.pinned : Pinned := { name := "ytklcjpidbpplkaa", sum := "94157bfe3f01e8d66892ba78825dbf768e8ac7689f63913073557458913dbfc2", checked := Try.checked }
namespace Rows
def none {H : Type} : Left H := { results := [], args := [] }

/-- 'laws.FnLimits': WHATEVER THE INPUT: true; the input reads as it did. -/
def fnLimitsSpec : ChangeSpec := { name := "fnLimits", fn := fun _ => fun
  | [d] => { results := [.lit (.bool true)], args := [d] }
  | _ => none }
def fnLimitsRow : OpenClaim := { program := "ytklcjpidbpplkaa", sum := "94157bfe3f01e8d66892ba78825dbf768e8ac7689f63913073557458913dbfc2", func := "loop.example/g00200/laws.FnLimits", spec := "fnLimits", apart := false }
def FnLimitsSaid : Prop := fnLimitsRow.holds Try.pinned (OpenSpec.ofChange fnLimitsSpec)

/-- ITS FALSE NEIGHBOUR: 'it returns false'. Refute it at one input. -/
def fnLimitsWrong : ChangeSpec := { name := "fnLimits", fn := fun _ => fun
  | [d] => { results := [.lit (.bool false)], args := [d] }
  | _ => none }
def FnLimitsWrongFalsely : Prop := fnLimitsRow.holds Try.pinned (OpenSpec.ofChange fnLimitsWrong)

/-- 'laws.FnExactAllow': WHATEVER THE INPUT: true; the input reads as it did. -/
def fnExactAllowSpec : ChangeSpec := { name := "fnExactAllow", fn := fun _ => fun
  | [d1, d2] => { results := [.lit (.bool true)], args := [d1, d2] }
  | _ => none }
def fnExactAllowRow : OpenClaim := { program := "ytklcjpidbpplkaa", sum := "94157bfe3f01e8d66892ba78825dbf768e8ac7689f63913073557458913dbfc2", func := "loop.example/g00200/laws.FnExactAllow", spec := "fnExactAllow", apart := false }
def FnExactAllowSaid : Prop := fnExactAllowRow.holds Try.pinned (OpenSpec.ofChange fnExactAllowSpec)

/-- ITS FALSE NEIGHBOUR: 'it returns false'. Refute it at one input. -/
def fnExactAllowWrong : ChangeSpec := { name := "fnExactAllow", fn := fun _ => fun
  | [d1, d2] => { results := [.lit (.bool false)], args := [d1, d2] }
  | _ => none }
def FnExactAllowWrongFalsely : Prop := fnExactAllowRow.holds Try.pinned (OpenSpec.ofChange fnExactAllowWrong)

/-- 'laws.FnBoluses': WHATEVER THE INPUT: true; the input reads as it did. -/
def fnBolusesSpec : ChangeSpec := { name := "fnBoluses", fn := fun _ => fun
  | [d] => { results := [.lit (.bool true)], args := [d] }
  | _ => none }
def fnBolusesRow : OpenClaim := { program := "ytklcjpidbpplkaa", sum := "94157bfe3f01e8d66892ba78825dbf768e8ac7689f63913073557458913dbfc2", func := "loop.example/g00200/laws.FnBoluses", spec := "fnBoluses", apart := false }
def FnBolusesSaid : Prop := fnBolusesRow.holds Try.pinned (OpenSpec.ofChange fnBolusesSpec)

/-- ITS FALSE NEIGHBOUR: 'it returns false'. Refute it at one input. -/
def fnBolusesWrong : ChangeSpec := { name := "fnBoluses", fn := fun _ => fun
  | [d] => { results := [.lit (.bool false)], args := [d] }
  | _ => none }
def FnBolusesWrongFalsely : Prop := fnBolusesRow.holds Try.pinned (OpenSpec.ofChange fnBolusesWrong)

/-- 'laws.FnKeepsOpen': WHATEVER THE INPUT: true; the input reads as it did. -/
def fnKeepsOpenSpec : ChangeSpec := { name := "fnKeepsOpen", fn := fun _ => fun
  | [d] => { results := [.lit (.bool true)], args := [d] }
  | _ => none }
def fnKeepsOpenRow : OpenClaim := { program := "ytklcjpidbpplkaa", sum := "94157bfe3f01e8d66892ba78825dbf768e8ac7689f63913073557458913dbfc2", func := "loop.example/g00200/laws.FnKeepsOpen", spec := "fnKeepsOpen", apart := false }
def FnKeepsOpenSaid : Prop := fnKeepsOpenRow.holds Try.pinned (OpenSpec.ofChange fnKeepsOpenSpec)

/-- ITS FALSE NEIGHBOUR: 'it returns false'. Refute it at one input. -/
def fnKeepsOpenWrong : ChangeSpec := { name := "fnKeepsOpen", fn := fun _ => fun
  | [d] => { results := [.lit (.bool false)], args := [d] }
  | _ => none }
def FnKeepsOpenWrongFalsely : Prop := fnKeepsOpenRow.holds Try.pinned (OpenSpec.ofChange fnKeepsOpenWrong)

/-- 'laws.FnVolumes': WHATEVER THE INPUT: true; the input reads as it did. -/
def fnVolumesSpec : ChangeSpec := { name := "fnVolumes", fn := fun _ => fun
  | [d] => { results := [.lit (.bool true)], args := [d] }
  | _ => none }
def fnVolumesRow : OpenClaim := { program := "ytklcjpidbpplkaa", sum := "94157bfe3f01e8d66892ba78825dbf768e8ac7689f63913073557458913dbfc2", func := "loop.example/g00200/laws.FnVolumes", spec := "fnVolumes", apart := false }
def FnVolumesSaid : Prop := fnVolumesRow.holds Try.pinned (OpenSpec.ofChange fnVolumesSpec)

/-- ITS FALSE NEIGHBOUR: 'it returns false'. Refute it at one input. -/
def fnVolumesWrong : ChangeSpec := { name := "fnVolumes", fn := fun _ => fun
  | [d] => { results := [.lit (.bool false)], args := [d] }
  | _ => none }
def FnVolumesWrongFalsely : Prop := fnVolumesRow.holds Try.pinned (OpenSpec.ofChange fnVolumesWrong)

/-- 'laws.FnExactPass': WHATEVER THE INPUT: true; the input reads as it did. -/
def fnExactPassSpec : ChangeSpec := { name := "fnExactPass", fn := fun _ => fun
  | [d1, d2] => { results := [.lit (.bool true)], args := [d1, d2] }
  | _ => none }
def fnExactPassRow : OpenClaim := { program := "ytklcjpidbpplkaa", sum := "94157bfe3f01e8d66892ba78825dbf768e8ac7689f63913073557458913dbfc2", func := "loop.example/g00200/laws.FnExactPass", spec := "fnExactPass", apart := false }
def FnExactPassSaid : Prop := fnExactPassRow.holds Try.pinned (OpenSpec.ofChange fnExactPassSpec)

/-- ITS FALSE NEIGHBOUR: 'it returns false'. Refute it at one input. -/
def fnExactPassWrong : ChangeSpec := { name := "fnExactPass", fn := fun _ => fun
  | [d1, d2] => { results := [.lit (.bool false)], args := [d1, d2] }
  | _ => none }
def FnExactPassWrongFalsely : Prop := fnExactPassRow.holds Try.pinned (OpenSpec.ofChange fnExactPassWrong)

/-- 'laws.FnExactFeel': WHATEVER THE INPUT: true; the input reads as it did. -/
def fnExactFeelSpec : ChangeSpec := { name := "fnExactFeel", fn := fun _ => fun
  | [d1, d2, d3] => { results := [.lit (.bool true)], args := [d1, d2, d3] }
  | _ => none }
def fnExactFeelRow : OpenClaim := { program := "ytklcjpidbpplkaa", sum := "94157bfe3f01e8d66892ba78825dbf768e8ac7689f63913073557458913dbfc2", func := "loop.example/g00200/laws.FnExactFeel", spec := "fnExactFeel", apart := false }
def FnExactFeelSaid : Prop := fnExactFeelRow.holds Try.pinned (OpenSpec.ofChange fnExactFeelSpec)

/-- ITS FALSE NEIGHBOUR: 'it returns false'. Refute it at one input. -/
def fnExactFeelWrong : ChangeSpec := { name := "fnExactFeel", fn := fun _ => fun
  | [d1, d2, d3] => { results := [.lit (.bool false)], args := [d1, d2, d3] }
  | _ => none }
def FnExactFeelWrongFalsely : Prop := fnExactFeelRow.holds Try.pinned (OpenSpec.ofChange fnExactFeelWrong)

/-- 'laws.FnExactGive': WHATEVER THE INPUT: true; the input reads as it did. -/
def fnExactGiveSpec : ChangeSpec := { name := "fnExactGive", fn := fun _ => fun
  | [d1, d2] => { results := [.lit (.bool true)], args := [d1, d2] }
  | _ => none }
def fnExactGiveRow : OpenClaim := { program := "ytklcjpidbpplkaa", sum := "94157bfe3f01e8d66892ba78825dbf768e8ac7689f63913073557458913dbfc2", func := "loop.example/g00200/laws.FnExactGive", spec := "fnExactGive", apart := false }
def FnExactGiveSaid : Prop := fnExactGiveRow.holds Try.pinned (OpenSpec.ofChange fnExactGiveSpec)

/-- ITS FALSE NEIGHBOUR: 'it returns false'. Refute it at one input. -/
def fnExactGiveWrong : ChangeSpec := { name := "fnExactGive", fn := fun _ => fun
  | [d1, d2] => { results := [.lit (.bool false)], args := [d1, d2] }
  | _ => none }
def FnExactGiveWrongFalsely : Prop := fnExactGiveRow.holds Try.pinned (OpenSpec.ofChange fnExactGiveWrong)

/-- 'laws.FnTyped': WHATEVER THE INPUT: true; the input reads as it did. -/
def fnTypedSpec : ChangeSpec := { name := "fnTyped", fn := fun _ => fun
  | [d] => { results := [.lit (.bool true)], args := [d] }
  | _ => none }
def fnTypedRow : OpenClaim := { program := "ytklcjpidbpplkaa", sum := "94157bfe3f01e8d66892ba78825dbf768e8ac7689f63913073557458913dbfc2", func := "loop.example/g00200/laws.FnTyped", spec := "fnTyped", apart := false }
def FnTypedSaid : Prop := fnTypedRow.holds Try.pinned (OpenSpec.ofChange fnTypedSpec)

/-- ITS FALSE NEIGHBOUR: 'it returns false'. Refute it at one input. -/
def fnTypedWrong : ChangeSpec := { name := "fnTyped", fn := fun _ => fun
  | [d] => { results := [.lit (.bool false)], args := [d] }
  | _ => none }
def FnTypedWrongFalsely : Prop := fnTypedRow.holds Try.pinned (OpenSpec.ofChange fnTypedWrong)

/-- 'laws.FnExactTake': WHATEVER THE INPUT: true; the input reads as it did. -/
def fnExactTakeSpec : ChangeSpec := { name := "fnExactTake", fn := fun _ => fun
  | [d1, d2] => { results := [.lit (.bool true)], args := [d1, d2] }
  | _ => none }
def fnExactTakeRow : OpenClaim := { program := "ytklcjpidbpplkaa", sum := "94157bfe3f01e8d66892ba78825dbf768e8ac7689f63913073557458913dbfc2", func := "loop.example/g00200/laws.FnExactTake", spec := "fnExactTake", apart := false }
def FnExactTakeSaid : Prop := fnExactTakeRow.holds Try.pinned (OpenSpec.ofChange fnExactTakeSpec)

/-- ITS FALSE NEIGHBOUR: 'it returns false'. Refute it at one input. -/
def fnExactTakeWrong : ChangeSpec := { name := "fnExactTake", fn := fun _ => fun
  | [d1, d2] => { results := [.lit (.bool false)], args := [d1, d2] }
  | _ => none }
def FnExactTakeWrongFalsely : Prop := fnExactTakeRow.holds Try.pinned (OpenSpec.ofChange fnExactTakeWrong)

/-- 'laws.FnAlarms': WHATEVER THE INPUT: true; the input reads as it did. -/
def fnAlarmsSpec : ChangeSpec := { name := "fnAlarms", fn := fun _ => fun
  | [d] => { results := [.lit (.bool true)], args := [d] }
  | _ => none }
def fnAlarmsRow : OpenClaim := { program := "ytklcjpidbpplkaa", sum := "94157bfe3f01e8d66892ba78825dbf768e8ac7689f63913073557458913dbfc2", func := "loop.example/g00200/laws.FnAlarms", spec := "fnAlarms", apart := false }
def FnAlarmsSaid : Prop := fnAlarmsRow.holds Try.pinned (OpenSpec.ofChange fnAlarmsSpec)

/-- ITS FALSE NEIGHBOUR: 'it returns false'. Refute it at one input. -/
def fnAlarmsWrong : ChangeSpec := { name := "fnAlarms", fn := fun _ => fun
  | [d] => { results := [.lit (.bool false)], args := [d] }
  | _ => none }
def FnAlarmsWrongFalsely : Prop := fnAlarmsRow.holds Try.pinned (OpenSpec.ofChange fnAlarmsWrong)

/- THE SECOND FORM. 'bulk': how many values and letters a reading holds, each counted each time it is reached (what is shared counts as often as it is met; a slice's spare places count too). A statement '..UptoSaid' is the law's where the arguments, and the package variables that the reading takes, are together of bulk at most 1048576: NARROWER than '..Said'. Prove '..Said' where nothing that the law and all that it calls make is longer than what came in: it says more and counts as full. Else prove '..UptoSaid'. A law counts once. -/
mutual
def uptoBulk {H : Type} : DataW H → Nat
  | .lit (.string bytes) => bytes.length + 1
  | .lit _ => 1
  | .nil => 1
  | .ptr d => uptoBulk d + 1
  | .slice elems spare => uptoBulkAll elems + uptoBulkAll spare + 1
  | .agg parts => uptoBulkAll parts + 1
  | .iface _ d => uptoBulk d + 1
  | .map entries => uptoBulkEntries entries + 1
  | .held _ => 1
def uptoBulkAll {H : Type} : List (DataW H) → Nat
  | [] => 0
  | d :: r => uptoBulk d + uptoBulkAll r
def uptoBulkEntries {H : Type} : List (Lit × DataW H) → Nat
  | [] => 0
  | x :: r => uptoBulkEntry x + uptoBulkEntries r
def uptoBulkEntry {H : Type} : Lit × DataW H → Nat
  | (.string bytes, d) => bytes.length + uptoBulk d + 1
  | (_, d) => uptoBulk d + 1
 end
def uptoSmall : (H : Type) → List (DataW H) → Bool := fun _ ds => decide (uptoBulkAll ds ≤ 1048576)
def OpenSpec.upto (s : _root_.Go.ChangeSpec) : _root_.Go.OpenSpec := { _root_.Go.OpenSpec.ofChange s with cond := some uptoSmall }

/-- 'laws.FnLimits', WHERE WHAT IT READS IS OF BULK AT MOST 1048576: true; the input reads as it did. -/
def fnLimitsUptoRow : OpenClaim := { program := "ytklcjpidbpplkaa", sum := "94157bfe3f01e8d66892ba78825dbf768e8ac7689f63913073557458913dbfc2", func := "loop.example/g00200/laws.FnLimits", spec := "fnLimits", apart := false, narrowed := true }
def FnLimitsUptoSaid : Prop := fnLimitsUptoRow.holds Try.pinned (OpenSpec.upto fnLimitsSpec)

/-- 'laws.FnExactAllow', WHERE WHAT IT READS IS OF BULK AT MOST 1048576: true; the input reads as it did. -/
def fnExactAllowUptoRow : OpenClaim := { program := "ytklcjpidbpplkaa", sum := "94157bfe3f01e8d66892ba78825dbf768e8ac7689f63913073557458913dbfc2", func := "loop.example/g00200/laws.FnExactAllow", spec := "fnExactAllow", apart := false, narrowed := true }
def FnExactAllowUptoSaid : Prop := fnExactAllowUptoRow.holds Try.pinned (OpenSpec.upto fnExactAllowSpec)

/-- 'laws.FnBoluses', WHERE WHAT IT READS IS OF BULK AT MOST 1048576: true; the input reads as it did. -/
def fnBolusesUptoRow : OpenClaim := { program := "ytklcjpidbpplkaa", sum := "94157bfe3f01e8d66892ba78825dbf768e8ac7689f63913073557458913dbfc2", func := "loop.example/g00200/laws.FnBoluses", spec := "fnBoluses", apart := false, narrowed := true }
def FnBolusesUptoSaid : Prop := fnBolusesUptoRow.holds Try.pinned (OpenSpec.upto fnBolusesSpec)

/-- 'laws.FnKeepsOpen', WHERE WHAT IT READS IS OF BULK AT MOST 1048576: true; the input reads as it did. -/
def fnKeepsOpenUptoRow : OpenClaim := { program := "ytklcjpidbpplkaa", sum := "94157bfe3f01e8d66892ba78825dbf768e8ac7689f63913073557458913dbfc2", func := "loop.example/g00200/laws.FnKeepsOpen", spec := "fnKeepsOpen", apart := false, narrowed := true }
def FnKeepsOpenUptoSaid : Prop := fnKeepsOpenUptoRow.holds Try.pinned (OpenSpec.upto fnKeepsOpenSpec)

/-- 'laws.FnVolumes', WHERE WHAT IT READS IS OF BULK AT MOST 1048576: true; the input reads as it did. -/
def fnVolumesUptoRow : OpenClaim := { program := "ytklcjpidbpplkaa", sum := "94157bfe3f01e8d66892ba78825dbf768e8ac7689f63913073557458913dbfc2", func := "loop.example/g00200/laws.FnVolumes", spec := "fnVolumes", apart := false, narrowed := true }
def FnVolumesUptoSaid : Prop := fnVolumesUptoRow.holds Try.pinned (OpenSpec.upto fnVolumesSpec)

/-- 'laws.FnExactPass', WHERE WHAT IT READS IS OF BULK AT MOST 1048576: true; the input reads as it did. -/
def fnExactPassUptoRow : OpenClaim := { program := "ytklcjpidbpplkaa", sum := "94157bfe3f01e8d66892ba78825dbf768e8ac7689f63913073557458913dbfc2", func := "loop.example/g00200/laws.FnExactPass", spec := "fnExactPass", apart := false, narrowed := true }
def FnExactPassUptoSaid : Prop := fnExactPassUptoRow.holds Try.pinned (OpenSpec.upto fnExactPassSpec)

/-- 'laws.FnExactFeel', WHERE WHAT IT READS IS OF BULK AT MOST 1048576: true; the input reads as it did. -/
def fnExactFeelUptoRow : OpenClaim := { program := "ytklcjpidbpplkaa", sum := "94157bfe3f01e8d66892ba78825dbf768e8ac7689f63913073557458913dbfc2", func := "loop.example/g00200/laws.FnExactFeel", spec := "fnExactFeel", apart := false, narrowed := true }
def FnExactFeelUptoSaid : Prop := fnExactFeelUptoRow.holds Try.pinned (OpenSpec.upto fnExactFeelSpec)

/-- 'laws.FnExactGive', WHERE WHAT IT READS IS OF BULK AT MOST 1048576: true; the input reads as it did. -/
def fnExactGiveUptoRow : OpenClaim := { program := "ytklcjpidbpplkaa", sum := "94157bfe3f01e8d66892ba78825dbf768e8ac7689f63913073557458913dbfc2", func := "loop.example/g00200/laws.FnExactGive", spec := "fnExactGive", apart := false, narrowed := true }
def FnExactGiveUptoSaid : Prop := fnExactGiveUptoRow.holds Try.pinned (OpenSpec.upto fnExactGiveSpec)

/-- 'laws.FnTyped', WHERE WHAT IT READS IS OF BULK AT MOST 1048576: true; the input reads as it did. -/
def fnTypedUptoRow : OpenClaim := { program := "ytklcjpidbpplkaa", sum := "94157bfe3f01e8d66892ba78825dbf768e8ac7689f63913073557458913dbfc2", func := "loop.example/g00200/laws.FnTyped", spec := "fnTyped", apart := false, narrowed := true }
def FnTypedUptoSaid : Prop := fnTypedUptoRow.holds Try.pinned (OpenSpec.upto fnTypedSpec)

/-- 'laws.FnExactTake', WHERE WHAT IT READS IS OF BULK AT MOST 1048576: true; the input reads as it did. -/
def fnExactTakeUptoRow : OpenClaim := { program := "ytklcjpidbpplkaa", sum := "94157bfe3f01e8d66892ba78825dbf768e8ac7689f63913073557458913dbfc2", func := "loop.example/g00200/laws.FnExactTake", spec := "fnExactTake", apart := false, narrowed := true }
def FnExactTakeUptoSaid : Prop := fnExactTakeUptoRow.holds Try.pinned (OpenSpec.upto fnExactTakeSpec)

/-- 'laws.FnAlarms', WHERE WHAT IT READS IS OF BULK AT MOST 1048576: true; the input reads as it did. -/
def fnAlarmsUptoRow : OpenClaim := { program := "ytklcjpidbpplkaa", sum := "94157bfe3f01e8d66892ba78825dbf768e8ac7689f63913073557458913dbfc2", func := "loop.example/g00200/laws.FnAlarms", spec := "fnAlarms", apart := false, narrowed := true }
def FnAlarmsUptoSaid : Prop := fnAlarmsUptoRow.holds Try.pinned (OpenSpec.upto fnAlarmsSpec)

end Rows
end Go.Proofs.Ytklcjpidbpplkaa
