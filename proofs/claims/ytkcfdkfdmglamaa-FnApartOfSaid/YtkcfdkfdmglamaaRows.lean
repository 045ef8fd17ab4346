/-
  No cell of these rows narrows 'for every input' (looked for: loops, veiled, ifaces, maps, wideKeys, modest, calm, conditions, laid).
  DERIVED. THE GIVEN ROWS OF THIS SEAT. 7 by the template 'for every input the law returns true; each argument reads behind the call as it read before'; 0 by the template 'total and deterministic' (their statements: YtkcfdkfdmglamaaTotals.lean).
  GIVEN WITH THE SEED: the statements are not yours to turn. If you find one false, say at which input.
  Laid BY PROGRAM, IN A SANDBOX (cutbox-rows.mjs): the forced cells as the released guide's own fill.sh prints them over the translation ea4f421d1a742182… (all of the seat's roots in one cut). By AI agents, Wed Nov 11 2026. No macro, syntax, notation, axiom, sorry.
-/
import Derived.Test.YtkcfdkfdmglamaaChecked
import GoSem.Claim
import GoSem.ClaimJoined
import GoSem.ClaimMapViews
import Derived.JoinedTies
import Derived.KernelRfl
namespace Go.Proofs.Ytkcfdkfdmglamaa
/- THE CELL 'sum', in the pinned program and in every row, IS THE sha256 OF THE DUMP (.gsa) THAT YtkcfdkfdmglamaaProg.lean LOADS. Nothing in Lean hashes anything: it is a label: what it is worth is what the hold of that sum in a sandbox is worth. -/
noncomputable def Try.pinned : Pinned := { name := "ytkcfdkfdmglamaa", sum := "ea4f421d1a742182070d295de657890bc227c3aef06f8759321041cc4c9e4fe9", checked := Try.checked }
namespace Rows
def none {H : Type} : Left H := { results := [], args := [] }

/-- 'laws.FnGiven': WHATEVER THE INPUT: true; the input reads as it did. -/
def fnGivenSpec : ChangeSpec := { name := "fnGiven", fn := fun _ => fun
  | [d] => { results := [.lit (.bool true)], args := [d] }
  | _ => none }
def fnGivenRow : OpenClaim := { program := "ytkcfdkfdmglamaa", sum := "ea4f421d1a742182070d295de657890bc227c3aef06f8759321041cc4c9e4fe9", func := "loop.example/g00200/laws.FnGiven", spec := "fnGiven", apart := false }
def FnGivenSaid : Prop := fnGivenRow.holds Try.pinned (OpenSpec.ofChange fnGivenSpec)

/-- ITS FALSE NEIGHBOUR: 'it returns false'. Refute it at one input. -/
def fnGivenWrong : ChangeSpec := { name := "fnGiven", fn := fun _ => fun
  | [d] => { results := [.lit (.bool false)], args := [d] }
  | _ => none }
def FnGivenWrongFalsely : Prop := fnGivenRow.holds Try.pinned (OpenSpec.ofChange fnGivenWrong)

/-- 'laws.FnLinks': WHATEVER THE INPUT: true; the input reads as it did. -/
def fnLinksSpec : ChangeSpec := { name := "fnLinks", fn := fun _ => fun
  | [d] => { results := [.lit (.bool true)], args := [d] }
  | _ => none }
def fnLinksRow : OpenClaim := { program := "ytkcfdkfdmglamaa", sum := "ea4f421d1a742182070d295de657890bc227c3aef06f8759321041cc4c9e4fe9", func := "loop.example/g00200/laws.FnLinks", spec := "fnLinks", apart := false }
def FnLinksSaid : Prop := fnLinksRow.holds Try.pinned (OpenSpec.ofChange fnLinksSpec)

/-- ITS FALSE NEIGHBOUR: 'it returns false'. Refute it at one input. -/
def fnLinksWrong : ChangeSpec := { name := "fnLinks", fn := fun _ => fun
  | [d] => { results := [.lit (.bool false)], args := [d] }
  | _ => none }
def FnLinksWrongFalsely : Prop := fnLinksRow.holds Try.pinned (OpenSpec.ofChange fnLinksWrong)

/-- 'laws.FnExactLatched': WHATEVER THE INPUT: true; the input reads as it did. -/
def fnExactLatchedSpec : ChangeSpec := { name := "fnExactLatched", fn := fun _ => fun
  | [d1, d2] => { results := [.lit (.bool true)], args := [d1, d2] }
  | _ => none }
def fnExactLatchedRow : OpenClaim := { program := "ytkcfdkfdmglamaa", sum := "ea4f421d1a742182070d295de657890bc227c3aef06f8759321041cc4c9e4fe9", func := "loop.example/g00200/laws.FnExactLatched", spec := "fnExactLatched", apart := false }
def FnExactLatchedSaid : Prop := fnExactLatchedRow.holds Try.pinned (OpenSpec.ofChange fnExactLatchedSpec)

/-- ITS FALSE NEIGHBOUR: 'it returns false'. Refute it at one input. -/
def fnExactLatchedWrong : ChangeSpec := { name := "fnExactLatched", fn := fun _ => fun
  | [d1, d2] => { results := [.lit (.bool false)], args := [d1, d2] }
  | _ => none }
def FnExactLatchedWrongFalsely : Prop := fnExactLatchedRow.holds Try.pinned (OpenSpec.ofChange fnExactLatchedWrong)

/-- 'laws.FnExactApart': WHATEVER THE INPUT: true; the input reads as it did. -/
def fnExactApartSpec : ChangeSpec := { name := "fnExactApart", fn := fun _ => fun
  | [d1, d2, d3] => { results := [.lit (.bool true)], args := [d1, d2, d3] }
  | _ => none }
def fnExactApartRow : OpenClaim := { program := "ytkcfdkfdmglamaa", sum := "ea4f421d1a742182070d295de657890bc227c3aef06f8759321041cc4c9e4fe9", func := "loop.example/g00200/laws.FnExactApart", spec := "fnExactApart", apart := false }
def FnExactApartSaid : Prop := fnExactApartRow.holds Try.pinned (OpenSpec.ofChange fnExactApartSpec)

/-- ITS FALSE NEIGHBOUR: 'it returns false'. Refute it at one input. -/
def fnExactApartWrong : ChangeSpec := { name := "fnExactApart", fn := fun _ => fun
  | [d1, d2, d3] => { results := [.lit (.bool false)], args := [d1, d2, d3] }
  | _ => none }
def FnExactApartWrongFalsely : Prop := fnExactApartRow.holds Try.pinned (OpenSpec.ofChange fnExactApartWrong)

/-- 'laws.FnAlarmStops': WHATEVER THE INPUT: true; the input reads as it did. -/
def fnAlarmStopsSpec : ChangeSpec := { name := "fnAlarmStops", fn := fun _ => fun
  | [d] => { results := [.lit (.bool true)], args := [d] }
  | _ => none }
def fnAlarmStopsRow : OpenClaim := { program := "ytkcfdkfdmglamaa", sum := "ea4f421d1a742182070d295de657890bc227c3aef06f8759321041cc4c9e4fe9", func := "loop.example/g00200/laws.FnAlarmStops", spec := "fnAlarmStops", apart := false }
def FnAlarmStopsSaid : Prop := fnAlarmStopsRow.holds Try.pinned (OpenSpec.ofChange fnAlarmStopsSpec)

/-- ITS FALSE NEIGHBOUR: 'it returns false'. Refute it at one input. -/
def fnAlarmStopsWrong : ChangeSpec := { name := "fnAlarmStops", fn := fun _ => fun
  | [d] => { results := [.lit (.bool false)], args := [d] }
  | _ => none }
def FnAlarmStopsWrongFalsely : Prop := fnAlarmStopsRow.holds Try.pinned (OpenSpec.ofChange fnAlarmStopsWrong)

/-- 'laws.FnApartOf': WHATEVER THE INPUT: true; the input reads as it did. -/
def fnApartOfSpec : ChangeSpec := { name := "fnApartOf", fn := fun _ => fun
  | [d] => { results := [.lit (.bool true)], args := [d] }
  | _ => none }
def fnApartOfRow : OpenClaim := { program := "ytkcfdkfdmglamaa", sum := "ea4f421d1a742182070d295de657890bc227c3aef06f8759321041cc4c9e4fe9", func := "loop.example/g00200/laws.FnApartOf", spec := "fnApartOf", apart := false }
def FnApartOfSaid : Prop := fnApartOfRow.holds Try.pinned (OpenSpec.ofChange fnApartOfSpec)

/-- ITS FALSE NEIGHBOUR: 'it returns false'. Refute it at one input. -/
def fnApartOfWrong : ChangeSpec := { name := "fnApartOf", fn := fun _ => fun
  | [d] => { results := [.lit (.bool false)], args := [d] }
  | _ => none }
def FnApartOfWrongFalsely : Prop := fnApartOfRow.holds Try.pinned (OpenSpec.ofChange fnApartOfWrong)

/-- 'laws.FnTicks': WHATEVER THE INPUT: true; the input reads as it did. -/
def fnTicksSpec : ChangeSpec := { name := "fnTicks", fn := fun _ => fun
  | [d] => { results := [.lit (.bool true)], args := [d] }
  | _ => none }
def fnTicksRow : OpenClaim := { program := "ytkcfdkfdmglamaa", sum := "ea4f421d1a742182070d295de657890bc227c3aef06f8759321041cc4c9e4fe9", func := "loop.example/g00200/laws.FnTicks", spec := "fnTicks", apart := false }
def FnTicksSaid : Prop := fnTicksRow.holds Try.pinned (OpenSpec.ofChange fnTicksSpec)

/-- ITS FALSE NEIGHBOUR: 'it returns false'. Refute it at one input. -/
def fnTicksWrong : ChangeSpec := { name := "fnTicks", fn := fun _ => fun
  | [d] => { results := [.lit (.bool false)], args := [d] }
  | _ => none }
def FnTicksWrongFalsely : Prop := fnTicksRow.holds Try.pinned (OpenSpec.ofChange fnTicksWrong)

/- THE SECOND FORM. 'bulk': how many values and letters a reading holds, each counted each time it is reached (what is shared counts as often as it is met; a slice's spare places count too). A statement '..UptoSaid' is the law's where the arguments, and the package variables that the reading takes, are together of bulk at most 1048576: NARROWER than '..Said'. Prove '..Said' where nothing that the law and all that it calls make is longer than what came in: it says more and counts as full. Else prove '..UptoSaid'. A law counts once. -/
mutual
def uptoBulk {H : Type} : DataW H → Nat
  | .lit (.string bytes) => bytes.length + 1
  | .lit _ => 1
  | .nil => 1
  | .ptr d => uptoBulk d + 1
  | .slice elems spare => uptoBulkAll elems + uptoBulkAll spare + 1
  | .agg parts => uptoBulkAll parts + 1
  | .iface _ d => uptoBulk d + 1
  | .map entries => uptoBulkEntries entries + 1
  | .held _ => 1
def uptoBulkAll {H : Type} : List (DataW H) → Nat
  | [] => 0
  | d :: r => uptoBulk d + uptoBulkAll r
def uptoBulkEntries {H : Type} : List (Lit × DataW H) → Nat
  | [] => 0
  | x :: r => uptoBulkEntry x + uptoBulkEntries r
def uptoBulkEntry {H : Type} : Lit × DataW H → Nat
  | (.string bytes, d) => bytes.length + uptoBulk d + 1
  | (_, d) => uptoBulk d + 1
 end
def uptoSmall : (H : Type) → List (DataW H) → Bool := fun _ ds => decide (uptoBulkAll ds ≤ 1048576)
def OpenSpec.upto (s : _root_.Go.ChangeSpec) : _root_.Go.OpenSpec := { _root_.Go.OpenSpec.ofChange s with cond := some uptoSmall }

/-- 'laws.FnGiven', WHERE WHAT IT READS IS OF BULK AT MOST 1048576: true; the input reads as it did. -/
def fnGivenUptoRow : OpenClaim := { program := "ytkcfdkfdmglamaa", sum := "ea4f421d1a742182070d295de657890bc227c3aef06f8759321041cc4c9e4fe9", func := "loop.example/g00200/laws.FnGiven", spec := "fnGiven", apart := false, narrowed := true }
def FnGivenUptoSaid : Prop := fnGivenUptoRow.holds Try.pinned (OpenSpec.upto fnGivenSpec)

/-- 'laws.FnLinks', WHERE WHAT IT READS IS OF BULK AT MOST 1048576: true; the input reads as it did. -/
def fnLinksUptoRow : OpenClaim := { program := "ytkcfdkfdmglamaa", sum := "ea4f421d1a742182070d295de657890bc227c3aef06f8759321041cc4c9e4fe9", func := "loop.example/g00200/laws.FnLinks", spec := "fnLinks", apart := false, narrowed := true }
def FnLinksUptoSaid : Prop := fnLinksUptoRow.holds Try.pinned (OpenSpec.upto fnLinksSpec)

/-- 'laws.FnExactLatched', WHERE WHAT IT READS IS OF BULK AT MOST 1048576: true; the input reads as it did. -/
def fnExactLatchedUptoRow : OpenClaim := { program := "ytkcfdkfdmglamaa", sum := "ea4f421d1a742182070d295de657890bc227c3aef06f8759321041cc4c9e4fe9", func := "loop.example/g00200/laws.FnExactLatched", spec := "fnExactLatched", apart := false, narrowed := true }
def FnExactLatchedUptoSaid : Prop := fnExactLatchedUptoRow.holds Try.pinned (OpenSpec.upto fnExactLatchedSpec)

/-- 'laws.FnExactApart', WHERE WHAT IT READS IS OF BULK AT MOST 1048576: true; the input reads as it did. -/
def fnExactApartUptoRow : OpenClaim := { program := "ytkcfdkfdmglamaa", sum := "ea4f421d1a742182070d295de657890bc227c3aef06f8759321041cc4c9e4fe9", func := "loop.example/g00200/laws.FnExactApart", spec := "fnExactApart", apart := false, narrowed := true }
def FnExactApartUptoSaid : Prop := fnExactApartUptoRow.holds Try.pinned (OpenSpec.upto fnExactApartSpec)

/-- 'laws.FnAlarmStops', WHERE WHAT IT READS IS OF BULK AT MOST 1048576: true; the input reads as it did. -/
def fnAlarmStopsUptoRow : OpenClaim := { program := "ytkcfdkfdmglamaa", sum := "ea4f421d1a742182070d295de657890bc227c3aef06f8759321041cc4c9e4fe9", func := "loop.example/g00200/laws.FnAlarmStops", spec := "fnAlarmStops", apart := false, narrowed := true }
def FnAlarmStopsUptoSaid : Prop := fnAlarmStopsUptoRow.holds Try.pinned (OpenSpec.upto fnAlarmStopsSpec)

/-- 'laws.FnApartOf', WHERE WHAT IT READS IS OF BULK AT MOST 1048576: true; the input reads as it did. -/
def fnApartOfUptoRow : OpenClaim := { program := "ytkcfdkfdmglamaa", sum := "ea4f421d1a742182070d295de657890bc227c3aef06f8759321041cc4c9e4fe9", func := "loop.example/g00200/laws.FnApartOf", spec := "fnApartOf", apart := false, narrowed := true }
def FnApartOfUptoSaid : Prop := fnApartOfUptoRow.holds Try.pinned (OpenSpec.upto fnApartOfSpec)

/-- 'laws.FnTicks', WHERE WHAT IT READS IS OF BULK AT MOST 1048576: true; the input reads as it did. -/
def fnTicksUptoRow : OpenClaim := { program := "ytkcfdkfdmglamaa", sum := "ea4f421d1a742182070d295de657890bc227c3aef06f8759321041cc4c9e4fe9", func := "loop.example/g00200/laws.FnTicks", spec := "fnTicks", apart := false, narrowed := true }
def FnTicksUptoSaid : Prop := fnTicksUptoRow.holds Try.pinned (OpenSpec.upto fnTicksSpec)

end Rows
end Go.Proofs.Ytkcfdkfdmglamaa
