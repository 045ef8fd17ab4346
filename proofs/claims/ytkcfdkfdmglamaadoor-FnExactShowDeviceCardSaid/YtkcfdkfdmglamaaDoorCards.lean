/-
  DERIVED. GIVEN WITH THE SEED: THE CARDS: each row of YtkcfdkfdmglamaaDoorRows.lean that lists a variable, with what it lists TIED to the program's text (the seventh form; the later family's looks); each row that meets fmt, with fmt's text TOLD by the authors' own Lean function (tested against real Go, not proved from fmt's source: count such statements apart). THE CARD IS WHAT COUNTS. Prove the row's statement (the work); the ties are given (YtkcfdkfdmglamaaDoorTie.lean); close each card by the builder's one call (the guide's Derived/Test/ToyasCard.lean, 'card_holds'). Laid BY PROGRAM, IN A SANDBOX (cutbox-door.mjs). By AI agents, Wed Nov 11 2026. No macro, syntax, notation, axiom, sorry.
-/
import Derived.Test.YtkcfdkfdmglamaaDoorRows
import GoSem.ClaimSeven
namespace Go.Proofs.YtkcfdkfdmglamaaDoor
namespace Rows

/-- THE TIED CARD OF 'laws.FnExactShowDevice'. -/
def fnExactShowDeviceCard : Claim7 := { stood := { row := fnExactShowDeviceRow, standIns := [], harness := (true, "554f8947bfefab373f827f564f109363b5cb2e5f42f7e2e6d4dfe8e1ae94ab48"), looks := false }, kinds := [], alts := [], laidByText := true, laidKinds := [.data, .data, .data], laidTests := true, laidLooks := .later }
def FnExactShowDeviceCardSaid : Prop := Claim7.holds Tryd.pinned (.plain (OpenSpec.ofChange fnExactShowDeviceSpec)) fnExactShowDeviceCard

/-- THE SECOND FORM's CARD OF 'laws.FnExactShowDevice'. -/
def fnExactShowDeviceUptoCard : Claim7 := { stood := { row := fnExactShowDeviceUptoRow, standIns := [], harness := (true, "554f8947bfefab373f827f564f109363b5cb2e5f42f7e2e6d4dfe8e1ae94ab48"), looks := false }, kinds := [], alts := [], laidByText := true, laidKinds := [.data, .data, .data], laidTests := true, laidLooks := .later }
def FnExactShowDeviceUptoCardSaid : Prop := Claim7.holds Tryd.pinned (.plain (OpenSpec.upto fnExactShowDeviceSpec)) fnExactShowDeviceUptoCard
end Rows
end Go.Proofs.YtkcfdkfdmglamaaDoor
