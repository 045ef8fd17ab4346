/-
  No cell of these rows narrows 'for every input' (looked for: loops, veiled, ifaces, maps, wideKeys, modest, calm, conditions, laid).
  DERIVED. THE GIVEN ROWS OF THIS SEAT. 12 by the template 'for every input the law returns true; each argument reads behind the call as it read before'; 0 by the template 'total and deterministic' (their statements: YthimkepabblloaaTotals.lean).
  GIVEN WITH THE SEED: the statements are not yours to turn. If you find one false, say at which input.
  Laid BY PROGRAM, IN A SANDBOX (cutbox-rows.mjs): the forced cells as the released guide's own fill.sh prints them over the translation 66413d02320d1409… (all of the seat's roots in one cut). By AI agents, Wed Nov 11 2026. No macro, syntax, notation, axiom, sorry.
-/
import Derived.Test.YthimkepabblloaaChecked
import GoSem.Claim
import GoSem.ClaimJoined
import GoSem.ClaimMapViews
import Derived.JoinedTies
import Derived.KernelRfl
namespace Go.Proofs.Ythimkepabblloaa
/- THE CELL 'sum', in the pinned program and in every row, IS THE sha256 OF THE DUMP (.gsa) THAT YthimkepabblloaaProg.lean LOADS. Nothing in Lean hashes anything: it is a label: what it is worth is what the hold of that sum in a sandbox is worth. -/
noncomputable def Try.pinned : Pinned := { name := "ythimkepabblloaa", sum := "66413d02320d140923b21a45ec1a0cf4f7f08c3448c404d5ae865c22a321966a", checked := Try.checked }
namespace Rows
def none {H : Type} : Left H := { results := [], args := [] }

/-- 'laws.FnExactDeviceNew': WHATEVER THE INPUT: true; the input reads as it did. -/
def fnExactDeviceNewSpec : ChangeSpec := { name := "fnExactDeviceNew", fn := fun _ => fun
  | [] => { results := [.lit (.bool true)], args := [] }
  | _ => none }
def fnExactDeviceNewRow : OpenClaim := { program := "ythimkepabblloaa", sum := "66413d02320d140923b21a45ec1a0cf4f7f08c3448c404d5ae865c22a321966a", func := "loop.example/g00200/laws.FnExactDeviceNew", spec := "fnExactDeviceNew", apart := false }
def FnExactDeviceNewSaid : Prop := fnExactDeviceNewRow.holds Try.pinned (OpenSpec.ofChange fnExactDeviceNewSpec)

/-- ITS FALSE NEIGHBOUR: 'it returns false'. Refute it at one input. -/
def fnExactDeviceNewWrong : ChangeSpec := { name := "fnExactDeviceNew", fn := fun _ => fun
  | [] => { results := [.lit (.bool false)], args := [] }
  | _ => none }
def FnExactDeviceNewWrongFalsely : Prop := fnExactDeviceNewRow.holds Try.pinned (OpenSpec.ofChange fnExactDeviceNewWrong)

/-- 'laws.FnExactReadOrder': WHATEVER THE INPUT: true; the input reads as it did. -/
def fnExactReadOrderSpec : ChangeSpec := { name := "fnExactReadOrder", fn := fun _ => fun
  | [d] => { results := [.lit (.bool true)], args := [d] }
  | _ => none }
def fnExactReadOrderRow : OpenClaim := { program := "ythimkepabblloaa", sum := "66413d02320d140923b21a45ec1a0cf4f7f08c3448c404d5ae865c22a321966a", func := "loop.example/g00200/laws.FnExactReadOrder", spec := "fnExactReadOrder", apart := false }
def FnExactReadOrderSaid : Prop := fnExactReadOrderRow.holds Try.pinned (OpenSpec.ofChange fnExactReadOrderSpec)

/-- ITS FALSE NEIGHBOUR: 'it returns false'. Refute it at one input. -/
def fnExactReadOrderWrong : ChangeSpec := { name := "fnExactReadOrder", fn := fun _ => fun
  | [d] => { results := [.lit (.bool false)], args := [d] }
  | _ => none }
def FnExactReadOrderWrongFalsely : Prop := fnExactReadOrderRow.holds Try.pinned (OpenSpec.ofChange fnExactReadOrderWrong)

/-- 'laws.FnExactPress': WHATEVER THE INPUT: true; the input reads as it did. -/
def fnExactPressSpec : ChangeSpec := { name := "fnExactPress", fn := fun _ => fun
  | [d1, d2] => { results := [.lit (.bool true)], args := [d1, d2] }
  | _ => none }
def fnExactPressRow : OpenClaim := { program := "ythimkepabblloaa", sum := "66413d02320d140923b21a45ec1a0cf4f7f08c3448c404d5ae865c22a321966a", func := "loop.example/g00200/laws.FnExactPress", spec := "fnExactPress", apart := false }
def FnExactPressSaid : Prop := fnExactPressRow.holds Try.pinned (OpenSpec.ofChange fnExactPressSpec)

/-- ITS FALSE NEIGHBOUR: 'it returns false'. Refute it at one input. -/
def fnExactPressWrong : ChangeSpec := { name := "fnExactPress", fn := fun _ => fun
  | [d1, d2] => { results := [.lit (.bool false)], args := [d1, d2] }
  | _ => none }
def FnExactPressWrongFalsely : Prop := fnExactPressRow.holds Try.pinned (OpenSpec.ofChange fnExactPressWrong)

/-- 'laws.FnMenus': WHATEVER THE INPUT: true; the input reads as it did. -/
def fnMenusSpec : ChangeSpec := { name := "fnMenus", fn := fun _ => fun
  | [d] => { results := [.lit (.bool true)], args := [d] }
  | _ => none }
def fnMenusRow : OpenClaim := { program := "ythimkepabblloaa", sum := "66413d02320d140923b21a45ec1a0cf4f7f08c3448c404d5ae865c22a321966a", func := "loop.example/g00200/laws.FnMenus", spec := "fnMenus", apart := false }
def FnMenusSaid : Prop := fnMenusRow.holds Try.pinned (OpenSpec.ofChange fnMenusSpec)

/-- ITS FALSE NEIGHBOUR: 'it returns false'. Refute it at one input. -/
def fnMenusWrong : ChangeSpec := { name := "fnMenus", fn := fun _ => fun
  | [d] => { results := [.lit (.bool false)], args := [d] }
  | _ => none }
def FnMenusWrongFalsely : Prop := fnMenusRow.holds Try.pinned (OpenSpec.ofChange fnMenusWrong)

/-- 'laws.FnKeysOf': WHATEVER THE INPUT: true; the input reads as it did. -/
def fnKeysOfSpec : ChangeSpec := { name := "fnKeysOf", fn := fun _ => fun
  | [d] => { results := [.lit (.bool true)], args := [d] }
  | _ => none }
def fnKeysOfRow : OpenClaim := { program := "ythimkepabblloaa", sum := "66413d02320d140923b21a45ec1a0cf4f7f08c3448c404d5ae865c22a321966a", func := "loop.example/g00200/laws.FnKeysOf", spec := "fnKeysOf", apart := false }
def FnKeysOfSaid : Prop := fnKeysOfRow.holds Try.pinned (OpenSpec.ofChange fnKeysOfSpec)

/-- ITS FALSE NEIGHBOUR: 'it returns false'. Refute it at one input. -/
def fnKeysOfWrong : ChangeSpec := { name := "fnKeysOf", fn := fun _ => fun
  | [d] => { results := [.lit (.bool false)], args := [d] }
  | _ => none }
def FnKeysOfWrongFalsely : Prop := fnKeysOfRow.holds Try.pinned (OpenSpec.ofChange fnKeysOfWrong)

/-- 'laws.FnPauses': WHATEVER THE INPUT: true; the input reads as it did. -/
def fnPausesSpec : ChangeSpec := { name := "fnPauses", fn := fun _ => fun
  | [d] => { results := [.lit (.bool true)], args := [d] }
  | _ => none }
def fnPausesRow : OpenClaim := { program := "ythimkepabblloaa", sum := "66413d02320d140923b21a45ec1a0cf4f7f08c3448c404d5ae865c22a321966a", func := "loop.example/g00200/laws.FnPauses", spec := "fnPauses", apart := false }
def FnPausesSaid : Prop := fnPausesRow.holds Try.pinned (OpenSpec.ofChange fnPausesSpec)

/-- ITS FALSE NEIGHBOUR: 'it returns false'. Refute it at one input. -/
def fnPausesWrong : ChangeSpec := { name := "fnPauses", fn := fun _ => fun
  | [d] => { results := [.lit (.bool false)], args := [d] }
  | _ => none }
def FnPausesWrongFalsely : Prop := fnPausesRow.holds Try.pinned (OpenSpec.ofChange fnPausesWrong)

/-- 'laws.FnExactPressAll': WHATEVER THE INPUT: true; the input reads as it did. -/
def fnExactPressAllSpec : ChangeSpec := { name := "fnExactPressAll", fn := fun _ => fun
  | [d1, d2] => { results := [.lit (.bool true)], args := [d1, d2] }
  | _ => none }
def fnExactPressAllRow : OpenClaim := { program := "ythimkepabblloaa", sum := "66413d02320d140923b21a45ec1a0cf4f7f08c3448c404d5ae865c22a321966a", func := "loop.example/g00200/laws.FnExactPressAll", spec := "fnExactPressAll", apart := false }
def FnExactPressAllSaid : Prop := fnExactPressAllRow.holds Try.pinned (OpenSpec.ofChange fnExactPressAllSpec)

/-- ITS FALSE NEIGHBOUR: 'it returns false'. Refute it at one input. -/
def fnExactPressAllWrong : ChangeSpec := { name := "fnExactPressAll", fn := fun _ => fun
  | [d1, d2] => { results := [.lit (.bool false)], args := [d1, d2] }
  | _ => none }
def FnExactPressAllWrongFalsely : Prop := fnExactPressAllRow.holds Try.pinned (OpenSpec.ofChange fnExactPressAllWrong)

/-- 'laws.FnExactDeviceOk': WHATEVER THE INPUT: true; the input reads as it did. -/
def fnExactDeviceOkSpec : ChangeSpec := { name := "fnExactDeviceOk", fn := fun _ => fun
  | [d] => { results := [.lit (.bool true)], args := [d] }
  | _ => none }
def fnExactDeviceOkRow : OpenClaim := { program := "ythimkepabblloaa", sum := "66413d02320d140923b21a45ec1a0cf4f7f08c3448c404d5ae865c22a321966a", func := "loop.example/g00200/laws.FnExactDeviceOk", spec := "fnExactDeviceOk", apart := false }
def FnExactDeviceOkSaid : Prop := fnExactDeviceOkRow.holds Try.pinned (OpenSpec.ofChange fnExactDeviceOkSpec)

/-- ITS FALSE NEIGHBOUR: 'it returns false'. Refute it at one input. -/
def fnExactDeviceOkWrong : ChangeSpec := { name := "fnExactDeviceOk", fn := fun _ => fun
  | [d] => { results := [.lit (.bool false)], args := [d] }
  | _ => none }
def FnExactDeviceOkWrongFalsely : Prop := fnExactDeviceOkRow.holds Try.pinned (OpenSpec.ofChange fnExactDeviceOkWrong)

/-- 'laws.FnPumps': WHATEVER THE INPUT: true; the input reads as it did. -/
def fnPumpsSpec : ChangeSpec := { name := "fnPumps", fn := fun _ => fun
  | [d] => { results := [.lit (.bool true)], args := [d] }
  | _ => none }
def fnPumpsRow : OpenClaim := { program := "ythimkepabblloaa", sum := "66413d02320d140923b21a45ec1a0cf4f7f08c3448c404d5ae865c22a321966a", func := "loop.example/g00200/laws.FnPumps", spec := "fnPumps", apart := false }
def FnPumpsSaid : Prop := fnPumpsRow.holds Try.pinned (OpenSpec.ofChange fnPumpsSpec)

/-- ITS FALSE NEIGHBOUR: 'it returns false'. Refute it at one input. -/
def fnPumpsWrong : ChangeSpec := { name := "fnPumps", fn := fun _ => fun
  | [d] => { results := [.lit (.bool false)], args := [d] }
  | _ => none }
def FnPumpsWrongFalsely : Prop := fnPumpsRow.holds Try.pinned (OpenSpec.ofChange fnPumpsWrong)

/-- 'laws.FnOrders': WHATEVER THE INPUT: true; the input reads as it did. -/
def fnOrdersSpec : ChangeSpec := { name := "fnOrders", fn := fun _ => fun
  | [d] => { results := [.lit (.bool true)], args := [d] }
  | _ => none }
def fnOrdersRow : OpenClaim := { program := "ythimkepabblloaa", sum := "66413d02320d140923b21a45ec1a0cf4f7f08c3448c404d5ae865c22a321966a", func := "loop.example/g00200/laws.FnOrders", spec := "fnOrders", apart := false }
def FnOrdersSaid : Prop := fnOrdersRow.holds Try.pinned (OpenSpec.ofChange fnOrdersSpec)

/-- ITS FALSE NEIGHBOUR: 'it returns false'. Refute it at one input. -/
def fnOrdersWrong : ChangeSpec := { name := "fnOrders", fn := fun _ => fun
  | [d] => { results := [.lit (.bool false)], args := [d] }
  | _ => none }
def FnOrdersWrongFalsely : Prop := fnOrdersRow.holds Try.pinned (OpenSpec.ofChange fnOrdersWrong)

/-- 'laws.FnExactSoundDevice': WHATEVER THE INPUT: true; the input reads as it did. -/
def fnExactSoundDeviceSpec : ChangeSpec := { name := "fnExactSoundDevice", fn := fun _ => fun
  | [d] => { results := [.lit (.bool true)], args := [d] }
  | _ => none }
def fnExactSoundDeviceRow : OpenClaim := { program := "ythimkepabblloaa", sum := "66413d02320d140923b21a45ec1a0cf4f7f08c3448c404d5ae865c22a321966a", func := "loop.example/g00200/laws.FnExactSoundDevice", spec := "fnExactSoundDevice", apart := false }
def FnExactSoundDeviceSaid : Prop := fnExactSoundDeviceRow.holds Try.pinned (OpenSpec.ofChange fnExactSoundDeviceSpec)

/-- ITS FALSE NEIGHBOUR: 'it returns false'. Refute it at one input. -/
def fnExactSoundDeviceWrong : ChangeSpec := { name := "fnExactSoundDevice", fn := fun _ => fun
  | [d] => { results := [.lit (.bool false)], args := [d] }
  | _ => none }
def FnExactSoundDeviceWrongFalsely : Prop := fnExactSoundDeviceRow.holds Try.pinned (OpenSpec.ofChange fnExactSoundDeviceWrong)

/-- 'laws.FnSeen': WHATEVER THE INPUT: true; the input reads as it did. -/
def fnSeenSpec : ChangeSpec := { name := "fnSeen", fn := fun _ => fun
  | [d] => { results := [.lit (.bool true)], args := [d] }
  | _ => none }
def fnSeenRow : OpenClaim := { program := "ythimkepabblloaa", sum := "66413d02320d140923b21a45ec1a0cf4f7f08c3448c404d5ae865c22a321966a", func := "loop.example/g00200/laws.FnSeen", spec := "fnSeen", apart := false }
def FnSeenSaid : Prop := fnSeenRow.holds Try.pinned (OpenSpec.ofChange fnSeenSpec)

/-- ITS FALSE NEIGHBOUR: 'it returns false'. Refute it at one input. -/
def fnSeenWrong : ChangeSpec := { name := "fnSeen", fn := fun _ => fun
  | [d] => { results := [.lit (.bool false)], args := [d] }
  | _ => none }
def FnSeenWrongFalsely : Prop := fnSeenRow.holds Try.pinned (OpenSpec.ofChange fnSeenWrong)

/- THE SECOND FORM. 'bulk': how many values and letters a reading holds, each counted each time it is reached (what is shared counts as often as it is met; a slice's spare places count too). A statement '..UptoSaid' is the law's where the arguments, and the package variables that the reading takes, are together of bulk at most 1048576: NARROWER than '..Said'. Prove '..Said' where nothing that the law and all that it calls make is longer than what came in: it says more and counts as full. Else prove '..UptoSaid'. A law counts once. -/
mutual
def uptoBulk {H : Type} : DataW H → Nat
  | .lit (.string bytes) => bytes.length + 1
  | .lit _ => 1
  | .nil => 1
  | .ptr d => uptoBulk d + 1
  | .slice elems spare => uptoBulkAll elems + uptoBulkAll spare + 1
  | .agg parts => uptoBulkAll parts + 1
  | .iface _ d => uptoBulk d + 1
  | .map entries => uptoBulkEntries entries + 1
  | .held _ => 1
def uptoBulkAll {H : Type} : List (DataW H) → Nat
  | [] => 0
  | d :: r => uptoBulk d + uptoBulkAll r
def uptoBulkEntries {H : Type} : List (Lit × DataW H) → Nat
  | [] => 0
  | x :: r => uptoBulkEntry x + uptoBulkEntries r
def uptoBulkEntry {H : Type} : Lit × DataW H → Nat
  | (.string bytes, d) => bytes.length + uptoBulk d + 1
  | (_, d) => uptoBulk d + 1
 end
def uptoSmall : (H : Type) → List (DataW H) → Bool := fun _ ds => decide (uptoBulkAll ds ≤ 1048576)
def OpenSpec.upto (s : _root_.Go.ChangeSpec) : _root_.Go.OpenSpec := { _root_.Go.OpenSpec.ofChange s with cond := some uptoSmall }

/-- 'laws.FnExactDeviceNew', WHERE WHAT IT READS IS OF BULK AT MOST 1048576: true; the input reads as it did. -/
def fnExactDeviceNewUptoRow : OpenClaim := { program := "ythimkepabblloaa", sum := "66413d02320d140923b21a45ec1a0cf4f7f08c3448c404d5ae865c22a321966a", func := "loop.example/g00200/laws.FnExactDeviceNew", spec := "fnExactDeviceNew", apart := false, narrowed := true }
def FnExactDeviceNewUptoSaid : Prop := fnExactDeviceNewUptoRow.holds Try.pinned (OpenSpec.upto fnExactDeviceNewSpec)

/-- 'laws.FnExactReadOrder', WHERE WHAT IT READS IS OF BULK AT MOST 1048576: true; the input reads as it did. -/
def fnExactReadOrderUptoRow : OpenClaim := { program := "ythimkepabblloaa", sum := "66413d02320d140923b21a45ec1a0cf4f7f08c3448c404d5ae865c22a321966a", func := "loop.example/g00200/laws.FnExactReadOrder", spec := "fnExactReadOrder", apart := false, narrowed := true }
def FnExactReadOrderUptoSaid : Prop := fnExactReadOrderUptoRow.holds Try.pinned (OpenSpec.upto fnExactReadOrderSpec)

/-- 'laws.FnExactPress', WHERE WHAT IT READS IS OF BULK AT MOST 1048576: true; the input reads as it did. -/
def fnExactPressUptoRow : OpenClaim := { program := "ythimkepabblloaa", sum := "66413d02320d140923b21a45ec1a0cf4f7f08c3448c404d5ae865c22a321966a", func := "loop.example/g00200/laws.FnExactPress", spec := "fnExactPress", apart := false, narrowed := true }
def FnExactPressUptoSaid : Prop := fnExactPressUptoRow.holds Try.pinned (OpenSpec.upto fnExactPressSpec)

/-- 'laws.FnMenus', WHERE WHAT IT READS IS OF BULK AT MOST 1048576: true; the input reads as it did. -/
def fnMenusUptoRow : OpenClaim := { program := "ythimkepabblloaa", sum := "66413d02320d140923b21a45ec1a0cf4f7f08c3448c404d5ae865c22a321966a", func := "loop.example/g00200/laws.FnMenus", spec := "fnMenus", apart := false, narrowed := true }
def FnMenusUptoSaid : Prop := fnMenusUptoRow.holds Try.pinned (OpenSpec.upto fnMenusSpec)

/-- 'laws.FnKeysOf', WHERE WHAT IT READS IS OF BULK AT MOST 1048576: true; the input reads as it did. -/
def fnKeysOfUptoRow : OpenClaim := { program := "ythimkepabblloaa", sum := "66413d02320d140923b21a45ec1a0cf4f7f08c3448c404d5ae865c22a321966a", func := "loop.example/g00200/laws.FnKeysOf", spec := "fnKeysOf", apart := false, narrowed := true }
def FnKeysOfUptoSaid : Prop := fnKeysOfUptoRow.holds Try.pinned (OpenSpec.upto fnKeysOfSpec)

/-- 'laws.FnPauses', WHERE WHAT IT READS IS OF BULK AT MOST 1048576: true; the input reads as it did. -/
def fnPausesUptoRow : OpenClaim := { program := "ythimkepabblloaa", sum := "66413d02320d140923b21a45ec1a0cf4f7f08c3448c404d5ae865c22a321966a", func := "loop.example/g00200/laws.FnPauses", spec := "fnPauses", apart := false, narrowed := true }
def FnPausesUptoSaid : Prop := fnPausesUptoRow.holds Try.pinned (OpenSpec.upto fnPausesSpec)

/-- 'laws.FnExactPressAll', WHERE WHAT IT READS IS OF BULK AT MOST 1048576: true; the input reads as it did. -/
def fnExactPressAllUptoRow : OpenClaim := { program := "ythimkepabblloaa", sum := "66413d02320d140923b21a45ec1a0cf4f7f08c3448c404d5ae865c22a321966a", func := "loop.example/g00200/laws.FnExactPressAll", spec := "fnExactPressAll", apart := false, narrowed := true }
def FnExactPressAllUptoSaid : Prop := fnExactPressAllUptoRow.holds Try.pinned (OpenSpec.upto fnExactPressAllSpec)

/-- 'laws.FnExactDeviceOk', WHERE WHAT IT READS IS OF BULK AT MOST 1048576: true; the input reads as it did. -/
def fnExactDeviceOkUptoRow : OpenClaim := { program := "ythimkepabblloaa", sum := "66413d02320d140923b21a45ec1a0cf4f7f08c3448c404d5ae865c22a321966a", func := "loop.example/g00200/laws.FnExactDeviceOk", spec := "fnExactDeviceOk", apart := false, narrowed := true }
def FnExactDeviceOkUptoSaid : Prop := fnExactDeviceOkUptoRow.holds Try.pinned (OpenSpec.upto fnExactDeviceOkSpec)

/-- 'laws.FnPumps', WHERE WHAT IT READS IS OF BULK AT MOST 1048576: true; the input reads as it did. -/
def fnPumpsUptoRow : OpenClaim := { program := "ythimkepabblloaa", sum := "66413d02320d140923b21a45ec1a0cf4f7f08c3448c404d5ae865c22a321966a", func := "loop.example/g00200/laws.FnPumps", spec := "fnPumps", apart := false, narrowed := true }
def FnPumpsUptoSaid : Prop := fnPumpsUptoRow.holds Try.pinned (OpenSpec.upto fnPumpsSpec)

/-- 'laws.FnOrders', WHERE WHAT IT READS IS OF BULK AT MOST 1048576: true; the input reads as it did. -/
def fnOrdersUptoRow : OpenClaim := { program := "ythimkepabblloaa", sum := "66413d02320d140923b21a45ec1a0cf4f7f08c3448c404d5ae865c22a321966a", func := "loop.example/g00200/laws.FnOrders", spec := "fnOrders", apart := false, narrowed := true }
def FnOrdersUptoSaid : Prop := fnOrdersUptoRow.holds Try.pinned (OpenSpec.upto fnOrdersSpec)

/-- 'laws.FnExactSoundDevice', WHERE WHAT IT READS IS OF BULK AT MOST 1048576: true; the input reads as it did. -/
def fnExactSoundDeviceUptoRow : OpenClaim := { program := "ythimkepabblloaa", sum := "66413d02320d140923b21a45ec1a0cf4f7f08c3448c404d5ae865c22a321966a", func := "loop.example/g00200/laws.FnExactSoundDevice", spec := "fnExactSoundDevice", apart := false, narrowed := true }
def FnExactSoundDeviceUptoSaid : Prop := fnExactSoundDeviceUptoRow.holds Try.pinned (OpenSpec.upto fnExactSoundDeviceSpec)

/-- 'laws.FnSeen', WHERE WHAT IT READS IS OF BULK AT MOST 1048576: true; the input reads as it did. -/
def fnSeenUptoRow : OpenClaim := { program := "ythimkepabblloaa", sum := "66413d02320d140923b21a45ec1a0cf4f7f08c3448c404d5ae865c22a321966a", func := "loop.example/g00200/laws.FnSeen", spec := "fnSeen", apart := false, narrowed := true }
def FnSeenUptoSaid : Prop := fnSeenUptoRow.holds Try.pinned (OpenSpec.upto fnSeenSpec)

end Rows
end Go.Proofs.Ythimkepabblloaa
