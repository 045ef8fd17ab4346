/- Functions of the program as functions of Lean, and that the program keeps to them. -/
import Derived.Test.YthimkepabblloaaFnExactDeviceNewA0
set_option maxRecDepth 100000
set_option linter.unusedVariables false
set_option linter.unusedSimpArgs false
namespace Go.Proofs
end Go.Proofs
namespace Go.Sx.T
open Go Go.Sx Go.Proofs Go.RowKit
/- laws_heldTickS -/
theorem laws_heldTickS_nil (m : Int) : g_laws_heldTickS ([], m) = some m := by
  refine evG_eq ?_
  show Ev (fun k => laws_heldTickS_L2 k (m, 0, [], ())) m
  refine Ev.step (fun q => by rw [laws_heldTickS_L2]) ?_
  exact ev_neg (by decide) ev_some
/- laws_heldIntS -/
theorem laws_heldIntS_nil (m : Int) : g_laws_heldIntS ([], m) = some m := by
  refine evG_eq ?_
  show Ev (fun k => laws_heldIntS_L2 k (m, 0, [], ())) m
  refine Ev.step (fun q => by rw [laws_heldIntS_L2]) ?_
  exact ev_neg (by decide) ev_some
/- laws_eqTick -/
theorem laws_eqTick_refl (p : Int × Int × Int) : g_laws_eqTick (p, p) = some true := by
  obtain ⟨a, b, c⟩ := p
  unfold g_laws_eqTick laws_eqTick_
  simp
/- laws_eqTickS -/
theorem laws_eqTickS_refl (l : List Tick) (hl : l.length ≤ 9223372036854775806) : g_laws_eqTickS (l, l) = some true := by
  refine evG_eq ?_
  unfold laws_eqTickS_
  refine ev_pos rfl ?_
  refine list_loop l (fun k (_ : Unit) i => laws_eqTickS_L4 (fun _ => g_laws_eqTick) k (i, l, l, ())) (fun _ _ => true) (fun _ => ?_) (fun i _ x rest hx hi h => ?_) 0 (by omega) ()
  · refine Ev.step (fun q => by rw [laws_eqTickS_L4]) ?_
    exact ev_neg (by omega) ev_some
  · refine Ev.step (fun q => by rw [laws_eqTickS_L4]) ?_
    refine ev_pos (by omega) (ev_pos (by omega) (ev_pos (by omega) (ev_pos (by omega) (ev_pos (by omega) (ev_bind (laws_eqTick_refl _) (ev_pos rfl ?_))))))
    rw [w64_succ (by omega)]
    exact h ()
/- laws_eqMenu -/
theorem laws_eqMenu_refl (m : Menu) : g_laws_eqMenu (m, m) = some true := by
  obtain ⟨a, b, n, d, s⟩ := m
  unfold g_laws_eqMenu laws_eqMenu_
  simp
/- laws_eqIntS -/
theorem laws_eqIntS_refl (l : List Int) (hl : l.length ≤ 9223372036854775806) : g_laws_eqIntS (l, l) = some true := by
  refine evG_eq ?_
  unfold laws_eqIntS_
  refine ev_pos rfl ?_
  refine list_loop l (fun k (_ : Unit) i => laws_eqIntS_L4 k (i, l, l, ())) (fun _ _ => true) (fun _ => ?_) (fun i _ x rest hx hi h => ?_) 0 (by omega) ()
  · refine Ev.step (fun q => by rw [laws_eqIntS_L4]) ?_
    exact ev_neg (by omega) ev_some
  · refine Ev.step (fun q => by rw [laws_eqIntS_L4]) ?_
    refine ev_pos (by omega) (ev_pos (by omega) (ev_pos (by omega) (ev_pos (by omega) (ev_pos (by omega) (ev_pos rfl ?_)))))
    rw [w64_succ (by omega)]
    exact h ()
/- laws_eqGuard -/
theorem laws_eqGuard_refl (l : List Int) (a : Int) (hl : l.length ≤ 9223372036854775806) : g_laws_eqGuard ((l, a), (l, a)) = some true := by
  unfold g_laws_eqGuard laws_eqGuard_
  simp [laws_eqIntS_refl l hl]
/- laws_eqRate -/
theorem laws_eqRate_refl (p : Int × Int × Int) : g_laws_eqRate (p, p) = some true := by
  obtain ⟨a, b, c⟩ := p
  unfold g_laws_eqRate laws_eqRate_
  simp
/- laws_eqPump -/
theorem laws_eqPump_refl (p : Pump) : g_laws_eqPump (p, p) = some true := by
  obtain ⟨s, n, d, r, l, b, g, k⟩ := p
  unfold g_laws_eqPump laws_eqPump_
  simp [laws_eqRate_refl]
/- laws_eqDevice -/
theorem laws_eqDevice_refl (d : Device) (h1 : d.2.2.2.2.2.2.2.2.1.length ≤ 9223372036854775806) (h2 : d.2.2.2.2.2.2.2.2.2.2.2.2.2.2.2.1.length ≤ 9223372036854775806) : g_laws_eqDevice (d, d) = some true := by
  obtain ⟨s, n, e, r, l, b, g, k, past, alarm, a, bo, nu, de, di, ts, ref⟩ := d
  unfold g_laws_eqDevice laws_eqDevice_
  simp only [laws_eqPump_refl, laws_eqGuard_refl past alarm h1, laws_eqMenu_refl, laws_eqTickS_refl ts h2, Option.bind_some, if_true]
/- impl_MenuNew -/
theorem impl_MenuNew_eq : g_impl_MenuNew () = some menuNew := rfl
/- impl_PumpNew -/
theorem impl_PumpNew_eq : g_impl_PumpNew () = some (0, 0, 1, 0, 0, 0, 0, 0) := rfl
/- laws_markTickS -/
theorem laws_markTickS_nil (m : Int) : g_laws_markTickS ([], m) = some m := by
  refine evG_eq ?_
  show Ev (fun k => laws_markTickS_L2 k (m, 0, [], ())) m
  refine Ev.step (fun q => by rw [laws_markTickS_L2]) ?_
  exact ev_neg (by decide) ev_some
/- laws_markIntS -/
theorem laws_markIntS_nil (m : Int) : g_laws_markIntS ([], m) = some m := by
  refine evG_eq ?_
  show Ev (fun k => laws_markIntS_L2 k (m, 0, [], ())) m
  refine Ev.step (fun q => by rw [laws_markIntS_L2]) ?_
  exact ev_neg (by decide) ev_some
/- spec_MenuNew -/
theorem spec_MenuNew_eq : g_spec_MenuNew () = some menuNew := rfl
/- spec_PumpNew -/
theorem spec_PumpNew_eq : g_spec_PumpNew () = some (0, 0, 1, 0, 0, 0, 0, 0) := rfl
/- laws_FnExactDeviceNew -/
theorem t_FnExactDeviceNew (x : Unit) : g_laws_FnExactDeviceNew x = some true := by
  have e1 : g_impl_DeviceNew () = some (dev (0, 0, 1, 0, 0, 0, 0, 0) [] 0 menuNew [] 0) := rfl
  have e2 : g_spec_DeviceNew () = some (dev (0, 0, 1, 0, 0, 0, 0, 0) [] 0 menuNew [] 0) := rfl
  have e3 := laws_eqDevice_refl (dev (0, 0, 1, 0, 0, 0, 0, 0) [] 0 menuNew [] 0) (Nat.zero_le _) (Nat.zero_le _)
  have e4 : g_laws_markDevice (dev (0, 0, 1, 0, 0, 0, 0, 0) [] 0 menuNew [] 0, 1) = some 1 := by
    unfold g_laws_markDevice laws_markDevice_ dev g_laws_markGuard laws_markGuard_
    simp only [laws_markIntS_nil, laws_markTickS_nil, Option.bind_some]
  have e5 : g_laws_heldDevice (dev (0, 0, 1, 0, 0, 0, 0, 0) [] 0 menuNew [] 0, 1) = some 1 := by
    unfold g_laws_heldDevice laws_heldDevice_ dev g_laws_heldGuard laws_heldGuard_
    simp only [laws_heldIntS_nil, laws_heldTickS_nil, Option.bind_some]
    rfl
  unfold g_laws_FnExactDeviceNew laws_FnExactDeviceNew_
  simp only [e1, e2, e3, e4, e5, Option.bind_some, if_true]
  rfl
end Go.Sx.T
