/-
  No cell of these rows narrows 'for every input' (looked for: loops, veiled, ifaces, maps, wideKeys, modest, calm, conditions, laid).
  DERIVED. THE GIVEN ROWS OF THIS SEAT. 3 by the template 'for every input the law returns true; each argument reads behind the call as it read before'; 0 by the template 'total and deterministic' (their statements: YtogagfoikapbpaaGreatTotals.lean).
  GIVEN WITH THE SEED: the statements are not yours to turn. If you find one false, say at which input.
  Laid BY PROGRAM, IN A SANDBOX (cutbox-rows.mjs): the forced cells as the released guide's own fill.sh prints them over the translation d2470f6623aa796a… (all of the seat's roots in one cut). By AI agents, Wed Nov 11 2026. No macro, syntax, notation, axiom, sorry.
-/
import Derived.Test.YtogagfoikapbpaaGreatChecked
import GoSem.Claim
import GoSem.ClaimJoined
import GoSem.ClaimMapViews
import Derived.JoinedTies
import Derived.KernelRfl
namespace Go.Proofs.YtogagfoikapbpaaGreat
/- THE CELL 'sum', in the pinned program and in every row, IS THE sha256 OF THE DUMP (.gsa) THAT YtogagfoikapbpaaGreatProg.lean LOADS. Nothing in Lean hashes anything: it is a label: what it is worth is what the hold of that sum in a sandbox is worth. -/
noncomputable def Tryz.pinned : Pinned := { name := "ytogagfoikapbpaagreat", sum := "d2470f6623aa796a8a3394d657f55d41818b25b785e15ed2844161b5d59ec4f7", checked := Tryz.checked }
namespace Rows
def none {H : Type} : Left H := { results := [], args := [] }

/-- 'laws.FnExactRunDevice': WHATEVER THE INPUT: true; the input reads as it did. -/
def fnExactRunDeviceSpec : ChangeSpec := { name := "fnExactRunDevice", fn := fun _ => fun
  | [d] => { results := [.lit (.bool true)], args := [d] }
  | _ => none }
def fnExactRunDeviceRow : OpenClaim := { program := "ytogagfoikapbpaagreat", sum := "d2470f6623aa796a8a3394d657f55d41818b25b785e15ed2844161b5d59ec4f7", func := "loop.example/g00200/laws.FnExactRunDevice", spec := "fnExactRunDevice", apart := false }
def FnExactRunDeviceSaid : Prop := fnExactRunDeviceRow.holds Tryz.pinned (OpenSpec.ofChange fnExactRunDeviceSpec)

/-- ITS FALSE NEIGHBOUR: 'it returns false'. Refute it at one input. -/
def fnExactRunDeviceWrong : ChangeSpec := { name := "fnExactRunDevice", fn := fun _ => fun
  | [d] => { results := [.lit (.bool false)], args := [d] }
  | _ => none }
def FnExactRunDeviceWrongFalsely : Prop := fnExactRunDeviceRow.holds Tryz.pinned (OpenSpec.ofChange fnExactRunDeviceWrong)

/-- 'laws.FnExactTickDevice': WHATEVER THE INPUT: true; the input reads as it did. -/
def fnExactTickDeviceSpec : ChangeSpec := { name := "fnExactTickDevice", fn := fun _ => fun
  | [d1, d2] => { results := [.lit (.bool true)], args := [d1, d2] }
  | _ => none }
def fnExactTickDeviceRow : OpenClaim := { program := "ytogagfoikapbpaagreat", sum := "d2470f6623aa796a8a3394d657f55d41818b25b785e15ed2844161b5d59ec4f7", func := "loop.example/g00200/laws.FnExactTickDevice", spec := "fnExactTickDevice", apart := false }
def FnExactTickDeviceSaid : Prop := fnExactTickDeviceRow.holds Tryz.pinned (OpenSpec.ofChange fnExactTickDeviceSpec)

/-- ITS FALSE NEIGHBOUR: 'it returns false'. Refute it at one input. -/
def fnExactTickDeviceWrong : ChangeSpec := { name := "fnExactTickDevice", fn := fun _ => fun
  | [d1, d2] => { results := [.lit (.bool false)], args := [d1, d2] }
  | _ => none }
def FnExactTickDeviceWrongFalsely : Prop := fnExactTickDeviceRow.holds Tryz.pinned (OpenSpec.ofChange fnExactTickDeviceWrong)

/-- 'laws.FnWatches': WHATEVER THE INPUT: true; the input reads as it did. -/
def fnWatchesSpec : ChangeSpec := { name := "fnWatches", fn := fun _ => fun
  | [d] => { results := [.lit (.bool true)], args := [d] }
  | _ => none }
def fnWatchesRow : OpenClaim := { program := "ytogagfoikapbpaagreat", sum := "d2470f6623aa796a8a3394d657f55d41818b25b785e15ed2844161b5d59ec4f7", func := "loop.example/g00200/laws.FnWatches", spec := "fnWatches", apart := false }
def FnWatchesSaid : Prop := fnWatchesRow.holds Tryz.pinned (OpenSpec.ofChange fnWatchesSpec)

/-- ITS FALSE NEIGHBOUR: 'it returns false'. Refute it at one input. -/
def fnWatchesWrong : ChangeSpec := { name := "fnWatches", fn := fun _ => fun
  | [d] => { results := [.lit (.bool false)], args := [d] }
  | _ => none }
def FnWatchesWrongFalsely : Prop := fnWatchesRow.holds Tryz.pinned (OpenSpec.ofChange fnWatchesWrong)

/- THE SECOND FORM. 'bulk': how many values and letters a reading holds, each counted each time it is reached (what is shared counts as often as it is met; a slice's spare places count too). A statement '..UptoSaid' is the law's where the arguments, and the package variables that the reading takes, are together of bulk at most 1048576: NARROWER than '..Said'. Prove '..Said' where nothing that the law and all that it calls make is longer than what came in: it says more and counts as full. Else prove '..UptoSaid'. A law counts once. -/
mutual
def uptoBulk {H : Type} : DataW H → Nat
  | .lit (.string bytes) => bytes.length + 1
  | .lit _ => 1
  | .nil => 1
  | .ptr d => uptoBulk d + 1
  | .slice elems spare => uptoBulkAll elems + uptoBulkAll spare + 1
  | .agg parts => uptoBulkAll parts + 1
  | .iface _ d => uptoBulk d + 1
  | .map entries => uptoBulkEntries entries + 1
  | .held _ => 1
def uptoBulkAll {H : Type} : List (DataW H) → Nat
  | [] => 0
  | d :: r => uptoBulk d + uptoBulkAll r
def uptoBulkEntries {H : Type} : List (Lit × DataW H) → Nat
  | [] => 0
  | x :: r => uptoBulkEntry x + uptoBulkEntries r
def uptoBulkEntry {H : Type} : Lit × DataW H → Nat
  | (.string bytes, d) => bytes.length + uptoBulk d + 1
  | (_, d) => uptoBulk d + 1
 end
def uptoSmall : (H : Type) → List (DataW H) → Bool := fun _ ds => decide (uptoBulkAll ds ≤ 1048576)
def OpenSpec.upto (s : _root_.Go.ChangeSpec) : _root_.Go.OpenSpec := { _root_.Go.OpenSpec.ofChange s with cond := some uptoSmall }

/-- 'laws.FnExactRunDevice', WHERE WHAT IT READS IS OF BULK AT MOST 1048576: true; the input reads as it did. -/
def fnExactRunDeviceUptoRow : OpenClaim := { program := "ytogagfoikapbpaagreat", sum := "d2470f6623aa796a8a3394d657f55d41818b25b785e15ed2844161b5d59ec4f7", func := "loop.example/g00200/laws.FnExactRunDevice", spec := "fnExactRunDevice", apart := false, narrowed := true }
def FnExactRunDeviceUptoSaid : Prop := fnExactRunDeviceUptoRow.holds Tryz.pinned (OpenSpec.upto fnExactRunDeviceSpec)

/-- 'laws.FnExactTickDevice', WHERE WHAT IT READS IS OF BULK AT MOST 1048576: true; the input reads as it did. -/
def fnExactTickDeviceUptoRow : OpenClaim := { program := "ytogagfoikapbpaagreat", sum := "d2470f6623aa796a8a3394d657f55d41818b25b785e15ed2844161b5d59ec4f7", func := "loop.example/g00200/laws.FnExactTickDevice", spec := "fnExactTickDevice", apart := false, narrowed := true }
def FnExactTickDeviceUptoSaid : Prop := fnExactTickDeviceUptoRow.holds Tryz.pinned (OpenSpec.upto fnExactTickDeviceSpec)

/-- 'laws.FnWatches', WHERE WHAT IT READS IS OF BULK AT MOST 1048576: true; the input reads as it did. -/
def fnWatchesUptoRow : OpenClaim := { program := "ytogagfoikapbpaagreat", sum := "d2470f6623aa796a8a3394d657f55d41818b25b785e15ed2844161b5d59ec4f7", func := "loop.example/g00200/laws.FnWatches", spec := "fnWatches", apart := false, narrowed := true }
def FnWatchesUptoSaid : Prop := fnWatchesUptoRow.holds Tryz.pinned (OpenSpec.upto fnWatchesSpec)

end Rows
end Go.Proofs.YtogagfoikapbpaaGreat
