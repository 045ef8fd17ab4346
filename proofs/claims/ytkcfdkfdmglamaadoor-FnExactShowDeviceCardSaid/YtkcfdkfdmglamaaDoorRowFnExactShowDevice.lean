/- The card of FnExactShowDevice: for every input the law returns true; the input reads as it did. Conditions: none. -/
import Derived.Test.YtkcfdkfdmglamaaDoorRows
import Derived.Test.YtkcfdkfdmglamaaDoorFnExactShowDeviceB0
import Derived.Test.YtkcfdkfdmglamaaDoorFnExactShowDeviceC0
import Derived.Handed
import Derived.Lay
import Derived.LaidLaws
import Derived.Lib.LaidTab
import Derived.Stop.LaidErr
import Derived.JoinedAt
import Derived.Test.YtkcfdkfdmglamaaDoorCards
import Derived.Test.YtkcfdkfdmglamaaDoorTie
import Derived.SevenTiedAt
import Derived.Test.YtkcfdkfdmglamaaDoorSz3
import Derived.Shelf.Vars
import Derived.WalkKit
import Derived.ProofKit
import Derived.OpenShut
import Derived.ShutString
import Derived.ChangeOld
import Derived.Below
import Derived.SizedLaws
import Derived.Carry
import Derived.ChangeSlices
set_option linter.unusedVariables false
set_option linter.unusedSimpArgs false
namespace Go.Proofs.YtkcfdkfdmglamaaDoor.fnExactShowDevice
open Go.ChangeShapes Go.WideShapes Go.ChangeAt Go.RowKit
theorem own : ownKnob Tryd.prog.godebug = none := by kernel_rfl
theorem laidOut : laidOutB Tryd.prog = true := by kernel_rfl
abbrev LD := Rows.fnExactShowDeviceRow.laid
theorem pow_ld : (Rows.laid_internal_strconv_uint64pow10 : DataW Unit) = Go.Lib.tabData .u64 Go.Lib.pow10Tab := by kernel_rfl
theorem tabs_ok {W : World} (h : laidMet Tryd.prog LD W) (hs : W.ShapedOpen Tryd.prog) : Go.Sx.Tabs Tryd.prog W.heap.size (fun _ => False) W :=
  Go.Sx.tabs_mk (Go.Sx.tab_pow (Go.Lib.tabIs_of_head (P := Tryd.prog) (g := 0) (t := 106) (e := 96) (n := 20) (rest := []) (by kernel_rfl) (by kernel_rfl) Tryd.underlying106 Tryd.underlying96 (by kernel_rfl) (by kernel_rfl) (pow_ld ▸ h.tail.tail)))
    (Go.Sx.tab_none (by kernel_rfl))
    (Go.Sx.tab_none (by kernel_rfl))
    (Go.Sx.tab_max (g0 := 1) (by kernel_rfl) (Go.Proofs.cell_of_shapedOpen_int (P := Tryd.prog) (g := 1) (t := 3) (zero := #[.int .i64 0]) hs (of_decide_eq_true (by kernel_rfl)) (by kernel_rfl) rfl (by kernel_rfl) (by kernel_rfl) Tryd.underlying3))
set_option maxRecDepth 100000 in
theorem lifted (os : Os) (started : os.Started) (H : Type) (enc : TypeId × Value → H) :
    ReturnsInHanded {} Tryd.checked os 3 .any (fun w args => (Rows.fnExactShowDeviceSpec.pre enc Tryd.prog Tryd.f3 Rows.fnExactShowDeviceRow.domain false w args ∧ laidMet Tryd.prog LD w) ∧ sizedMet enc Tryd.prog Tryd.f3 (OpenSpec.ofChange Rows.fnExactShowDeviceSpec) false w args) (Rows.fnExactShowDeviceSpec.post enc Tryd.prog Tryd.f3 false true false false) := by
  refine Go.Sx.returns_and_shaped (C := Tryd.checked) (X := fun w _ => laidMet Tryd.prog LD w) (fun _ _ _ hh h => h.of_heap hh) own started (by kernel_rfl) Tryd.func3
    (ChangeSpec.witness_at (enc := enc) (C := Tryd.checked) (os := os) (X := fun w _ => laidMet Tryd.prog LD w) false (World.laidAll Tryd.prog os LD) #[.agg #[.int .i64 0, .int .i64 0, .int .i64 0, .int .i64 0, .int .i64 0, .int .i64 0, .int .i64 0, .int .i64 0, .slice none 0 0, .int .i64 0, .int .i64 0, .bool false, .int .i64 0, .int .i64 0, .string ByteArray.empty, .slice none 0 0, .int .i64 0]] 8 (World.laidAll_os _ _ _) (by kernel_rfl) (by kernel_rfl) (by kernel_rfl) (by kernel_rfl) (by kernel_rfl) (laidMet_laidAll _ (by kernel_rfl) (by kernel_rfl))) ?_
  intro W base args ds gs before hval0 hW hcnd hsz0 hL hsh
  have hval : ∀ (j : Nat) t v, Tryd.f3.params[j]? = some t → args[j]? = some v → Value.okWide Tryd.prog W .any base t v := hval0
  have hW' := hW
  obtain ⟨p, q, hA0, hV, rfl, hfz, hnd⟩ := hW
  have hA : DataW.TrodAll enc Tryd.prog W 0 (fun _ => true) true Tryd.f3.params.toList args.toList ds p := hA0
  rw [Tryd.params3] at hA hval
  have hA1 := hA
  obtain ⟨v0, vs0, d0, ds0, p0, q0, hargs, rfl, rfl, h0, r0⟩ := trodAll_cons hA
  obtain ⟨rfl, rfl, rfl⟩ := trodAll_nil r0
  obtain rfl : args = #[v0] := by cases args; simp_all
  obtain ⟨rfl, rfl⟩ := trodVars_none hV
  clear hA0 hval0 hsz0
  refine (Go.Sx.law_calls Go.Sx.T.ok_laws_FnExactShowDevice (by kernel_rfl) (fun x hx => ⟨0, Go.Sx.T.t_FnExactShowDevice x hx⟩) hA1 (fun j t v h h' => hval j t v (by simpa using h) (by simpa using h')) (tabs_ok hL hsh)).mono fun e W' he => ?_
  obtain ⟨rfl, bel⟩ := he
  exact ⟨_, rfl, _, _, _, [], _, [], hW', trodAll_mk1 (shut_bool Tryd.underlying4 _), Go.Sx.args_keep laidOut bel _ _ _ _ (by kernel_rfl) hA1, rfl, bel.frame _, fun h => by cases h⟩
theorem over : Rows.fnExactShowDeviceRow.holds Tryd.pinned (OpenSpec.ofChange Rows.fnExactShowDeviceSpec) :=
  OpenClaim.holds_of_wide 3 Tryd.f3 rfl rfl rfl rfl rfl rfl rfl ⟨rfl, rfl, rfl, rfl, rfl⟩ rfl rfl rfl rfl rfl (by kernel_rfl) Tryd.func3 (by kernel_rfl)
    (of_decide_eq_true (by kernel_rfl)) (by unfold Func.isWrapper; first | (rw [if_pos (by decide +kernel)]; kernel_rfl) | (rw [if_neg (by decide +kernel)]; exact ⟨rfl, rfl⟩))
    (fun os started H enc _ => lifted os started H enc)
theorem card : Rows.FnExactShowDeviceCardSaid :=
  Claim7.holds_tied_plain_at .later [] [.data, .data, .data] true (true, "554f8947bfefab373f827f564f109363b5cb2e5f42f7e2e6d4dfe8e1ae94ab48") false over (fun _ h => by cases h) (by kernel_rfl) (fun _ h => by cases h) fnExactShowDevice_row_tie rfl ⟨rfl, rfl⟩ (by kernel_rfl) rfl
    (fun f fn hf hfn => by
      obtain rfl : f = 3 := Option.some.inj ((show Tryd.prog.funcNamed "loop.example/g00200/laws.FnExactShowDevice" = some 3 by kernel_rfl).symm.trans hf) |>.symm
      obtain rfl : fn = Tryd.f3 := (Option.some.inj (Tryd.func3.symm.trans hfn)).symm
      exact ⟨by kernel_rfl, fun j t ht => by
        rw [Tryd.params3] at ht
        have hm : t ∈ [33] := by simpa using Array.mem_of_getElem? ht
        have hall : ([33].all fun u => !Tryd.prog.wantsStandIn u) = true := by kernel_rfl
        exact (show Tryd.prog.wantsStandIn t = false by simpa using List.all_eq_true.1 hall t hm)⟩)
    (by kernel_rfl)
#print axioms card
end Go.Proofs.YtkcfdkfdmglamaaDoor.fnExactShowDevice
namespace Go.Proofs.YtkcfdkfdmglamaaDoor
/-- The card, under a short name, for the claim. -/
theorem fnExactShowDevice_holds : Rows.FnExactShowDeviceCardSaid := fnExactShowDevice.card
end Go.Proofs.YtkcfdkfdmglamaaDoor
