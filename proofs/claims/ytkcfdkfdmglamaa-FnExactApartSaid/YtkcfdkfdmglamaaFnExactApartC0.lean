/- Functions of the program as functions of Lean, and that the program keeps to them. -/
import Derived.Test.YtkcfdkfdmglamaaFnExactApartA0
set_option maxRecDepth 100000
set_option linter.unusedVariables false
set_option linter.unusedSimpArgs false
namespace Go.Proofs
end Go.Proofs
namespace Go.Sx.T
open Go Go.Sx Go.Proofs Go.RowKit
/- laws_eqEntry -/
theorem laws_eqEntry_refl (x : Int × (Int × (Int × (Int × Int)))) : g_laws_eqEntry (x, x) = some true := by
  obtain ⟨a, b, c, d, e⟩ := x
  unfold g_laws_eqEntry laws_eqEntry_
  simp
/- laws_eqEntryS -/
theorem laws_eqEntryS_refl (l : List (Int × (Int × (Int × (Int × Int))))) (hl : l.length ≤ 9223372036854775806) : g_laws_eqEntryS (l, l) = some true := by
  refine evG_eq ?_
  unfold laws_eqEntryS_
  refine ev_pos rfl ?_
  refine list_loop l (fun k (_ : Unit) i => laws_eqEntryS_L4 (fun _ => g_laws_eqEntry) k (i, l, l, ())) (fun _ _ => true) (fun _ => ?_) (fun i _ x rest hx hi h => ?_) 0 (by omega) ()
  · refine Ev.step (fun q => by rw [laws_eqEntryS_L4]) ?_
    exact ev_neg (by omega) ev_some
  · refine Ev.step (fun q => by rw [laws_eqEntryS_L4]) ?_
    refine ev_pos (by omega) (ev_pos (by omega) (ev_pos (by omega) (ev_pos (by omega) (ev_pos (by omega) (ev_bind (laws_eqEntry_refl _) (ev_pos rfl ?_))))))
    rw [w64_succ (by omega)]
    exact h ()
/- laws_eqIntS -/
theorem laws_eqIntS_refl (l : List Int) (hl : l.length ≤ 9223372036854775806) : g_laws_eqIntS (l, l) = some true := by
  refine evG_eq ?_
  unfold laws_eqIntS_
  refine ev_pos rfl ?_
  refine list_loop l (fun k (_ : Unit) i => laws_eqIntS_L4 k (i, l, l, ())) (fun _ _ => true) (fun _ => ?_) (fun i _ x rest hx hi h => ?_) 0 (by omega) ()
  · refine Ev.step (fun q => by rw [laws_eqIntS_L4]) ?_
    exact ev_neg (by omega) ev_some
  · refine Ev.step (fun q => by rw [laws_eqIntS_L4]) ?_
    refine ev_pos (by omega) (ev_pos (by omega) (ev_pos (by omega) (ev_pos (by omega) (ev_pos (by omega) (ev_pos rfl ?_)))))
    rw [w64_succ (by omega)]
    exact h ()
/- laws_eqMsg -/
theorem laws_eqMsg_refl (x : Int × Int) : g_laws_eqMsg (x, x) = some true := by
  obtain ⟨a, b⟩ := x
  unfold g_laws_eqMsg laws_eqMsg_
  simp
/- laws_eqMsgS -/
theorem laws_eqMsgS_refl (l : List (Int × Int)) (hl : l.length ≤ 9223372036854775806) : g_laws_eqMsgS (l, l) = some true := by
  refine evG_eq ?_
  unfold laws_eqMsgS_
  refine ev_pos rfl ?_
  refine list_loop l (fun k (_ : Unit) i => laws_eqMsgS_L4 (fun _ => g_laws_eqMsg) k (i, l, l, ())) (fun _ _ => true) (fun _ => ?_) (fun i _ x rest hx hi h => ?_) 0 (by omega) ()
  · refine Ev.step (fun q => by rw [laws_eqMsgS_L4]) ?_
    exact ev_neg (by omega) ev_some
  · refine Ev.step (fun q => by rw [laws_eqMsgS_L4]) ?_
    refine ev_pos (by omega) (ev_pos (by omega) (ev_pos (by omega) (ev_pos (by omega) (ev_pos (by omega) (ev_bind (laws_eqMsg_refl _) (ev_pos rfl ?_))))))
    rw [w64_succ (by omega)]
    exact h ()
/- laws_eqLine -/
theorem laws_eqLine_refl (l : List (Int × Int)) (hl : l.length ≤ 9223372036854775806) : g_laws_eqLine (l, l) = some true := by
  unfold g_laws_eqLine laws_eqLine_
  simp [laws_eqMsgS_refl l hl]
/- laws_eqLineS -/
theorem laws_eqLineS_refl (l : List (List (Int × Int))) (hl : l.length ≤ 1048576) (hs : ∀ x ∈ l, x.length ≤ 1048576) : g_laws_eqLineS (l, l) = some true := by
  refine evG_eq ?_
  unfold laws_eqLineS_
  refine ev_pos rfl ?_
  refine list_loop l (fun k (_ : Unit) i => laws_eqLineS_L4 (fun _ => g_laws_eqLine) k (i, l, l, ())) (fun _ _ => true) (fun _ => ?_) (fun i _ x rest hx hi h => ?_) 0 (by omega) ()
  · refine Ev.step (fun q => by rw [laws_eqLineS_L4]) ?_
    exact ev_neg (by omega) ev_some
  · refine Ev.step (fun q => by rw [laws_eqLineS_L4]) ?_
    have hm := hs x (mem_of_drop hx)
    refine ev_pos (by omega) (ev_pos (by omega) (ev_pos (by omega) (ev_pos (by omega) (ev_pos (by omega) ?_))))
    rw [getD_drop hx, w64_succ (by omega)]
    exact ev_bind (laws_eqLine_refl x (by omega)) (ev_pos rfl (h ()))
/- laws_eqCpu -/
theorem laws_eqCpu_refl (p : Int) (l : List Int) (hl : l.length ≤ 9223372036854775806) : g_laws_eqCpu ((p, l), (p, l)) = some true := by
  unfold g_laws_eqCpu laws_eqCpu_
  simp [laws_eqIntS_refl l hl]
/- laws_eqPart -/
theorem laws_eqPart_refl (s p : Int) (l : List Int) (r : Int × Int × Int) (hl : l.length ≤ 9223372036854775806) : g_laws_eqPart ((s, p, l, r), (s, p, l, r)) = some true := by
  obtain ⟨x, y, w⟩ := r
  unfold g_laws_eqPart laws_eqPart_
  simp [laws_eqCpu_refl p l hl]
/- laws_eqPartS -/
theorem laws_eqPartS_refl (l : List (Int × ((Int × List Int) × (Int × (Int × Int))))) (hl : l.length ≤ 1048576) (hs : ∀ x ∈ l, x.2.1.2.length ≤ 1048576) : g_laws_eqPartS (l, l) = some true := by
  refine evG_eq ?_
  unfold laws_eqPartS_
  refine ev_pos rfl ?_
  refine list_loop l (fun k (_ : Unit) i => laws_eqPartS_L4 (fun _ => g_laws_eqPart) k (i, l, l, ())) (fun _ _ => true) (fun _ => ?_) (fun i _ x rest hx hi h => ?_) 0 (by omega) ()
  · refine Ev.step (fun q => by rw [laws_eqPartS_L4]) ?_
    exact ev_neg (by omega) ev_some
  · refine Ev.step (fun q => by rw [laws_eqPartS_L4]) ?_
    have hm := hs x (mem_of_drop hx)
    refine ev_pos (by omega) (ev_pos (by omega) (ev_pos (by omega) (ev_pos (by omega) (ev_pos (by omega) ?_))))
    rw [getD_drop hx, w64_succ (by omega)]
    exact ev_bind (laws_eqPart_refl x.1 x.2.1.1 x.2.1.2 x.2.2 (by omega)) (ev_pos rfl (h ()))
/- laws_eqArena -/
theorem laws_eqArena_refl (l : List Int) (hl : l.length ≤ 9223372036854775806) : g_laws_eqArena (l, l) = some true := by
  unfold g_laws_eqArena laws_eqArena_
  simp [laws_eqIntS_refl l hl]
/- laws_eqStringS -/
theorem laws_eqStringS_refl (l : List ByteArray) (hl : l.length ≤ 9223372036854775806) : g_laws_eqStringS (l, l) = some true := by
  refine evG_eq ?_
  unfold laws_eqStringS_
  refine ev_pos rfl ?_
  refine list_loop l (fun k (_ : Unit) i => laws_eqStringS_L4 k (i, l, l, ())) (fun _ _ => true) (fun _ => ?_) (fun i _ x rest hx hi h => ?_) 0 (by omega) ()
  · refine Ev.step (fun q => by rw [laws_eqStringS_L4]) ?_
    exact ev_neg (by omega) ev_some
  · refine Ev.step (fun q => by rw [laws_eqStringS_L4]) ?_
    refine ev_pos (by omega) (ev_pos (by omega) (ev_pos (by omega) (ev_pos (by omega) (ev_pos (by omega) (ev_pos rfl ?_)))))
    rw [w64_succ (by omega)]
    exact h ()
/- laws_eqRule -/
theorem laws_eqRule_refl (x : Int × (Int × Int)) : g_laws_eqRule (x, x) = some true := by
  obtain ⟨a, b, c⟩ := x
  unfold g_laws_eqRule laws_eqRule_
  simp
/- laws_eqRuleS -/
theorem laws_eqRuleS_refl (l : List (Int × (Int × Int))) (hl : l.length ≤ 9223372036854775806) : g_laws_eqRuleS (l, l) = some true := by
  refine evG_eq ?_
  unfold laws_eqRuleS_
  refine ev_pos rfl ?_
  refine list_loop l (fun k (_ : Unit) i => laws_eqRuleS_L4 (fun _ => g_laws_eqRule) k (i, l, l, ())) (fun _ _ => true) (fun _ => ?_) (fun i _ x rest hx hi h => ?_) 0 (by omega) ()
  · refine Ev.step (fun q => by rw [laws_eqRuleS_L4]) ?_
    exact ev_neg (by omega) ev_some
  · refine Ev.step (fun q => by rw [laws_eqRuleS_L4]) ?_
    refine ev_pos (by omega) (ev_pos (by omega) (ev_pos (by omega) (ev_pos (by omega) (ev_pos (by omega) (ev_bind (laws_eqRule_refl _) (ev_pos rfl ?_))))))
    rw [w64_succ (by omega)]
    exact h ()
/- laws_eqPort -/
theorem laws_eqPort_refl (x : Int × (Int × (Int × (Int × Int)))) : g_laws_eqPort (x, x) = some true := by
  obtain ⟨a, b, c, d, e⟩ := x
  unfold g_laws_eqPort laws_eqPort_
  simp
/- laws_eqPortS -/
theorem laws_eqPortS_refl (l : List (Int × (Int × (Int × (Int × Int))))) (hl : l.length ≤ 9223372036854775806) : g_laws_eqPortS (l, l) = some true := by
  refine evG_eq ?_
  unfold laws_eqPortS_
  refine ev_pos rfl ?_
  refine list_loop l (fun k (_ : Unit) i => laws_eqPortS_L4 (fun _ => g_laws_eqPort) k (i, l, l, ())) (fun _ _ => true) (fun _ => ?_) (fun i _ x rest hx hi h => ?_) 0 (by omega) ()
  · refine Ev.step (fun q => by rw [laws_eqPortS_L4]) ?_
    exact ev_neg (by omega) ev_some
  · refine Ev.step (fun q => by rw [laws_eqPortS_L4]) ?_
    refine ev_pos (by omega) (ev_pos (by omega) (ev_pos (by omega) (ev_pos (by omega) (ev_pos (by omega) (ev_bind (laws_eqPort_refl _) (ev_pos rfl ?_))))))
    rw [w64_succ (by omega)]
    exact h ()
/- laws_eqWindow -/
theorem laws_eqWindow_refl (x : Int × Int) : g_laws_eqWindow (x, x) = some true := by
  obtain ⟨a, b⟩ := x
  unfold g_laws_eqWindow laws_eqWindow_
  simp
/- laws_eqWindowS -/
theorem laws_eqWindowS_refl (l : List (Int × Int)) (hl : l.length ≤ 9223372036854775806) : g_laws_eqWindowS (l, l) = some true := by
  refine evG_eq ?_
  unfold laws_eqWindowS_
  refine ev_pos rfl ?_
  refine list_loop l (fun k (_ : Unit) i => laws_eqWindowS_L4 (fun _ => g_laws_eqWindow) k (i, l, l, ())) (fun _ _ => true) (fun _ => ?_) (fun i _ x rest hx hi h => ?_) 0 (by omega) ()
  · refine Ev.step (fun q => by rw [laws_eqWindowS_L4]) ?_
    exact ev_neg (by omega) ev_some
  · refine Ev.step (fun q => by rw [laws_eqWindowS_L4]) ?_
    refine ev_pos (by omega) (ev_pos (by omega) (ev_pos (by omega) (ev_pos (by omega) (ev_pos (by omega) (ev_bind (laws_eqWindow_refl _) (ev_pos rfl ?_))))))
    rw [w64_succ (by omega)]
    exact h ()
/- laws_eqRegion -/
theorem laws_eqRegion_refl (x : Int × Int) : g_laws_eqRegion (x, x) = some true := by
  obtain ⟨a, b⟩ := x
  unfold g_laws_eqRegion laws_eqRegion_
  simp
/- laws_eqRegionS -/
theorem laws_eqRegionS_refl (l : List (Int × Int)) (hl : l.length ≤ 9223372036854775806) : g_laws_eqRegionS (l, l) = some true := by
  refine evG_eq ?_
  unfold laws_eqRegionS_
  refine ev_pos rfl ?_
  refine list_loop l (fun k (_ : Unit) i => laws_eqRegionS_L4 (fun _ => g_laws_eqRegion) k (i, l, l, ())) (fun _ _ => true) (fun _ => ?_) (fun i _ x rest hx hi h => ?_) 0 (by omega) ()
  · refine Ev.step (fun q => by rw [laws_eqRegionS_L4]) ?_
    exact ev_neg (by omega) ev_some
  · refine Ev.step (fun q => by rw [laws_eqRegionS_L4]) ?_
    refine ev_pos (by omega) (ev_pos (by omega) (ev_pos (by omega) (ev_pos (by omega) (ev_pos (by omega) (ev_bind (laws_eqRegion_refl _) (ev_pos rfl ?_))))))
    rw [w64_succ (by omega)]
    exact h ()
/- laws_eqSetup -/
theorem laws_eqSetup_refl (a0 a1 : List (Int × Int)) (a2 : List (Int × (Int × (Int × (Int × Int))))) (a3 : List (Int × (Int × Int))) (a4 : List ByteArray) (h0 : a0.length ≤ 1048576) (h1 : a1.length ≤ 1048576) (h2 : a2.length ≤ 1048576) (h3 : a3.length ≤ 1048576) (h4 : a4.length ≤ 1048576) : g_laws_eqSetup ((a0, a1, a2, a3, a4), (a0, a1, a2, a3, a4)) = some true := by
  unfold g_laws_eqSetup laws_eqSetup_
  simp only [laws_eqRegionS_refl a0 (by omega), laws_eqWindowS_refl a1 (by omega), laws_eqPortS_refl a2 (by omega), laws_eqRuleS_refl a3 (by omega), laws_eqStringS_refl a4 (by omega), Option.bind_some, if_true]
/- laws_szIntS -/
theorem laws_szIntS_eq (l : List Int) (hl : l.length ≤ maxLen) (a : Int) (ha : 0 ≤ a ∧ a ≤ 1048576) : g_laws_szIntS (l, a) = some (if (l.length : Int) ≤ a then a - (l.length : Int) else -1) := by
  rw [maxLen_eq] at hl
  unfold g_laws_szIntS laws_szIntS_
  simp only []
  rw [w64 (by omega) (by omega)]
  by_cases h : (l.length : Int) ≤ a
  · rw [if_neg (by omega), if_pos h]
  · rw [if_pos (by omega), if_neg h]
/- laws_szArena -/
theorem laws_szArena_eq (l : List Int) (hl : l.length ≤ maxLen) (a : Int) (ha : 0 ≤ a ∧ a ≤ 1048576) : g_laws_szArena (l, a) = some (if (l.length : Int) ≤ a then a - (l.length : Int) else -1) := by
  unfold g_laws_szArena laws_szArena_
  simp only [laws_szIntS_eq l hl a ha, Option.bind_some]
  by_cases h : (l.length : Int) ≤ a
  · rw [if_pos h, if_neg (by omega)]
  · rw [if_neg h, if_pos (by omega)]
/- laws_szEntryS -/
theorem laws_szEntryS_eq (l : List (Int × (Int × (Int × (Int × Int))))) (hl : l.length ≤ maxLen) (a : Int) (ha : 0 ≤ a ∧ a ≤ 1048576) : g_laws_szEntryS (l, a) = some (if (l.length : Int) ≤ a then a - (l.length : Int) else -1) := by
  rw [maxLen_eq] at hl
  unfold g_laws_szEntryS laws_szEntryS_
  simp only []
  rw [w64 (by omega) (by omega)]
  by_cases h : (l.length : Int) ≤ a
  · rw [if_neg (by omega), if_pos h]
  · rw [if_pos (by omega), if_neg h]
/- laws_szMsgS -/
theorem laws_szMsgS_eq (l : List (Int × Int)) (hl : l.length ≤ maxLen) (a : Int) (ha : 0 ≤ a ∧ a ≤ 1048576) : g_laws_szMsgS (l, a) = some (if (l.length : Int) ≤ a then a - (l.length : Int) else -1) := by
  rw [maxLen_eq] at hl
  unfold g_laws_szMsgS laws_szMsgS_
  simp only []
  rw [w64 (by omega) (by omega)]
  by_cases h : (l.length : Int) ≤ a
  · rw [if_neg (by omega), if_pos h]
  · rw [if_pos (by omega), if_neg h]
/- laws_szLine -/
theorem laws_szLine_eq (l : List (Int × Int)) (hl : l.length ≤ maxLen) (a : Int) (ha : 0 ≤ a ∧ a ≤ 1048576) : g_laws_szLine (l, a) = some (if (l.length : Int) ≤ a then a - (l.length : Int) else -1) := by
  unfold g_laws_szLine laws_szLine_
  simp only [laws_szMsgS_eq l hl a ha, Option.bind_some]
  by_cases h : (l.length : Int) ≤ a
  · rw [if_pos h, if_neg (by omega)]
  · rw [if_neg h, if_pos (by omega)]
/- laws_szLineS -/
theorem laws_szLineS_some (l : List (List (Int × Int))) (a : Int) (hl : l.length ≤ maxLen) (hg : ∀ x ∈ l, x.length ≤ maxLen) (ha : 0 ≤ a ∧ a ≤ 1048576) :
    ∃ q, g_laws_szLineS (l, a) = some q ∧ (q < 0 ∨ (0 ≤ q ∧ q ≤ a ∧ l.length ≤ 1048576 ∧ ∀ x ∈ l, x.length ≤ 1048576)) := by
  rw [maxLen_eq] at hl
  by_cases hn : (l.length : Int) ≤ a
  case neg =>
    refine ⟨-1, evG_eq ?_, .inl (by omega)⟩
    unfold laws_szLineS_
    simp only []
    rw [w64 (n := a - ((List.length l : Nat) : Int)) (by omega) (by omega)]
    exact ev_pos (by omega) ev_some
  have key : ∀ (d j : Nat), j + d = l.length → ∀ a' : Int, 0 ≤ a' ∧ a' ≤ a → (∀ x ∈ l.take j, x.length ≤ 1048576) →
      ∃ q, Ev (fun k => laws_szLineS_L5 (fun _ => g_laws_szLine) k (a', (j : Int), l, ())) q ∧ (q < 0 ∨ (0 ≤ q ∧ q ≤ a ∧ l.length ≤ 1048576 ∧ ∀ x ∈ l, x.length ≤ 1048576)) := by
    intro d
    induction d with
    | zero =>
      intro j hj a' ha' hx
      refine ⟨a', Ev.step (fun q => by rw [laws_szLineS_L5]) (ev_neg (by omega) ev_some), .inr ⟨ha'.1, ha'.2, by omega, ?_⟩⟩
      rw [List.take_of_length_le (by omega)] at hx
      exact hx
    | succ d ih =>
      intro j hj a' ha' hx
      have hlt : j < l.length := by omega
      have hgj := hg l[j] (List.getElem_mem hlt)
      generalize hy : l[j] = y at hgj
      have e := laws_szLine_eq y hgj a' (by omega)
      by_cases hs : (y.length : Int) ≤ a'
      · obtain ⟨q, h1, h2⟩ := ih (j + 1) (by omega) (a' - (y.length : Int)) (by omega) (by
          rw [List.take_succ_eq_append_getElem hlt]
          intro x hm
          rcases List.mem_append.1 hm with hm | hm
          · exact hx x hm
          · rw [List.mem_singleton, hy] at hm
            subst hm
            omega)
        refine ⟨q, Ev.step (fun q => by rw [laws_szLineS_L5]) ?_, h2⟩
        refine ev_pos (by omega) (ev_pos (by omega) (ev_pos (by omega) ?_))
        rw [getD_lt hlt, w64_succ (by omega), hy]
        rw [if_pos hs] at e
        exact ev_bind e (ev_neg (by omega) h1)
      · refine ⟨-1, Ev.step (fun q => by rw [laws_szLineS_L5]) ?_, .inl (by omega)⟩
        refine ev_pos (by omega) (ev_pos (by omega) (ev_pos (by omega) ?_))
        rw [getD_lt hlt, hy]
        rw [if_neg hs] at e
        exact ev_bind e (ev_pos (by omega) ev_some)
  obtain ⟨q, h1, h2⟩ := key l.length 0 (by omega) (a - (l.length : Int)) (by omega) (fun x hx => by simp at hx)
  refine ⟨q, evG_eq ?_, h2⟩
  unfold laws_szLineS_
  simp only []
  rw [w64 (n := a - ((List.length l : Nat) : Int)) (by omega) (by omega)]
  exact ev_neg (by omega) h1
/- laws_szCpu -/
theorem laws_szCpu_eq (p : Int) (l : List Int) (hl : l.length ≤ maxLen) (a : Int) (ha : 0 ≤ a ∧ a ≤ 1048576) : g_laws_szCpu ((p, l), a) = some (if (l.length : Int) ≤ a then a - (l.length : Int) else -1) := by
  unfold g_laws_szCpu laws_szCpu_
  simp only [laws_szIntS_eq l hl a ha, Option.bind_some]
  by_cases h : (l.length : Int) ≤ a
  · rw [if_pos h, if_neg (by omega)]
  · rw [if_neg h, if_pos (by omega)]
/- laws_szPart -/
theorem laws_szPart_eq (s p : Int) (l : List Int) (r : Int × Int × Int) (hl : l.length ≤ maxLen) (a : Int) (ha : 0 ≤ a ∧ a ≤ 1048576) : g_laws_szPart ((s, p, l, r), a) = some (if (l.length : Int) ≤ a then a - (l.length : Int) else -1) := by
  obtain ⟨x, y, w⟩ := r
  unfold g_laws_szPart laws_szPart_
  simp only [laws_szCpu_eq p l hl a ha, Option.bind_some]
  by_cases h : (l.length : Int) ≤ a
  · rw [if_pos h, if_neg (by omega)]
  · rw [if_neg h, if_pos (by omega)]
/- laws_szPartS -/
theorem laws_szPartS_some (l : List (Int × ((Int × List Int) × (Int × (Int × Int))))) (a : Int) (hl : l.length ≤ maxLen) (hg : ∀ x ∈ l, x.2.1.2.length ≤ maxLen) (ha : 0 ≤ a ∧ a ≤ 1048576) :
    ∃ q, g_laws_szPartS (l, a) = some q ∧ (q < 0 ∨ (0 ≤ q ∧ q ≤ a ∧ l.length ≤ 1048576 ∧ ∀ x ∈ l, x.2.1.2.length ≤ 1048576)) := by
  rw [maxLen_eq] at hl
  by_cases hn : (l.length : Int) ≤ a
  case neg =>
    refine ⟨-1, evG_eq ?_, .inl (by omega)⟩
    unfold laws_szPartS_
    simp only []
    rw [w64 (n := a - ((List.length l : Nat) : Int)) (by omega) (by omega)]
    exact ev_pos (by omega) ev_some
  have key : ∀ (d j : Nat), j + d = l.length → ∀ a' : Int, 0 ≤ a' ∧ a' ≤ a → (∀ x ∈ l.take j, x.2.1.2.length ≤ 1048576) →
      ∃ q, Ev (fun k => laws_szPartS_L5 (fun _ => g_laws_szPart) k (a', (j : Int), l, ())) q ∧ (q < 0 ∨ (0 ≤ q ∧ q ≤ a ∧ l.length ≤ 1048576 ∧ ∀ x ∈ l, x.2.1.2.length ≤ 1048576)) := by
    intro d
    induction d with
    | zero =>
      intro j hj a' ha' hx
      refine ⟨a', Ev.step (fun q => by rw [laws_szPartS_L5]) (ev_neg (by omega) ev_some), .inr ⟨ha'.1, ha'.2, by omega, ?_⟩⟩
      rw [List.take_of_length_le (by omega)] at hx
      exact hx
    | succ d ih =>
      intro j hj a' ha' hx
      have hlt : j < l.length := by omega
      have hgj := hg l[j] (List.getElem_mem hlt)
      generalize hy : l[j] = y at hgj
      have e := laws_szPart_eq y.1 y.2.1.1 y.2.1.2 y.2.2 hgj a' (by omega)
      by_cases hs : (y.2.1.2.length : Int) ≤ a'
      · obtain ⟨q, h1, h2⟩ := ih (j + 1) (by omega) (a' - (y.2.1.2.length : Int)) (by omega) (by
          rw [List.take_succ_eq_append_getElem hlt]
          intro x hm
          rcases List.mem_append.1 hm with hm | hm
          · exact hx x hm
          · rw [List.mem_singleton, hy] at hm
            subst hm
            omega)
        refine ⟨q, Ev.step (fun q => by rw [laws_szPartS_L5]) ?_, h2⟩
        refine ev_pos (by omega) (ev_pos (by omega) (ev_pos (by omega) ?_))
        rw [getD_lt hlt, w64_succ (by omega), hy]
        rw [if_pos hs] at e
        exact ev_bind e (ev_neg (by omega) h1)
      · refine ⟨-1, Ev.step (fun q => by rw [laws_szPartS_L5]) ?_, .inl (by omega)⟩
        refine ev_pos (by omega) (ev_pos (by omega) (ev_pos (by omega) ?_))
        rw [getD_lt hlt, hy]
        rw [if_neg hs] at e
        exact ev_bind e (ev_pos (by omega) ev_some)
  obtain ⟨q, h1, h2⟩ := key l.length 0 (by omega) (a - (l.length : Int)) (by omega) (fun x hx => by simp at hx)
  refine ⟨q, evG_eq ?_, h2⟩
  unfold laws_szPartS_
  simp only []
  rw [w64 (n := a - ((List.length l : Nat) : Int)) (by omega) (by omega)]
  exact ev_neg (by omega) h1
/- laws_szPortS -/
theorem laws_szPortS_eq (l : List (Int × (Int × (Int × (Int × Int))))) (hl : l.length ≤ maxLen) (a : Int) (ha : 0 ≤ a ∧ a ≤ 1048576) : g_laws_szPortS (l, a) = some (if (l.length : Int) ≤ a then a - (l.length : Int) else -1) := by
  rw [maxLen_eq] at hl
  unfold g_laws_szPortS laws_szPortS_
  simp only []
  rw [w64 (by omega) (by omega)]
  by_cases h : (l.length : Int) ≤ a
  · rw [if_neg (by omega), if_pos h]
  · rw [if_pos (by omega), if_neg h]
/- laws_szRegionS -/
theorem laws_szRegionS_eq (l : List (Int × Int)) (hl : l.length ≤ maxLen) (a : Int) (ha : 0 ≤ a ∧ a ≤ 1048576) : g_laws_szRegionS (l, a) = some (if (l.length : Int) ≤ a then a - (l.length : Int) else -1) := by
  rw [maxLen_eq] at hl
  unfold g_laws_szRegionS laws_szRegionS_
  simp only []
  rw [w64 (by omega) (by omega)]
  by_cases h : (l.length : Int) ≤ a
  · rw [if_neg (by omega), if_pos h]
  · rw [if_pos (by omega), if_neg h]
/- laws_szRuleS -/
theorem laws_szRuleS_eq (l : List (Int × (Int × Int))) (hl : l.length ≤ maxLen) (a : Int) (ha : 0 ≤ a ∧ a ≤ 1048576) : g_laws_szRuleS (l, a) = some (if (l.length : Int) ≤ a then a - (l.length : Int) else -1) := by
  rw [maxLen_eq] at hl
  unfold g_laws_szRuleS laws_szRuleS_
  simp only []
  rw [w64 (by omega) (by omega)]
  by_cases h : (l.length : Int) ≤ a
  · rw [if_neg (by omega), if_pos h]
  · rw [if_pos (by omega), if_neg h]
/- laws_szStringS -/
theorem laws_szStringS_some (l : List (ByteArray)) (a : Int) (hl : l.length ≤ maxLen) (hg : ∀ x ∈ l, x.size ≤ maxLen) (ha : 0 ≤ a ∧ a ≤ 1048576) :
    ∃ q, g_laws_szStringS (l, a) = some q ∧ (q < 0 ∨ (0 ≤ q ∧ q ≤ a ∧ l.length ≤ 1048576 ∧ ∀ x ∈ l, x.size ≤ 1048576)) := by
  rw [maxLen_eq] at hl
  by_cases hn : (l.length : Int) ≤ a
  case neg =>
    refine ⟨-1, evG_eq ?_, .inl (by omega)⟩
    unfold laws_szStringS_
    simp only []
    rw [w64 (n := a - ((List.length l : Nat) : Int)) (by omega) (by omega)]
    exact ev_pos (by omega) ev_some
  have key : ∀ (d j : Nat), j + d = l.length → ∀ a' : Int, 0 ≤ a' ∧ a' ≤ a → (∀ x ∈ l.take j, x.size ≤ 1048576) →
      ∃ q, Ev (fun k => laws_szStringS_L5 k (a', (j : Int), l, ())) q ∧ (q < 0 ∨ (0 ≤ q ∧ q ≤ a ∧ l.length ≤ 1048576 ∧ ∀ x ∈ l, x.size ≤ 1048576)) := by
    intro d
    induction d with
    | zero =>
      intro j hj a' ha' hx
      refine ⟨a', Ev.step (fun q => by rw [laws_szStringS_L5]) (ev_neg (by omega) ev_some), .inr ⟨ha'.1, ha'.2, by omega, ?_⟩⟩
      rw [List.take_of_length_le (by omega)] at hx
      exact hx
    | succ d ih =>
      intro j hj a' ha' hx
      have hlt : j < l.length := by omega
      have hgj := hg l[j] (List.getElem_mem hlt)
      generalize hy : l[j] = y at hgj
      rw [maxLen_eq] at hgj
      by_cases hs : (y.size : Int) ≤ a'
      · obtain ⟨q, h1, h2⟩ := ih (j + 1) (by omega) (a' - (y.size : Int)) (by omega) (by
          rw [List.take_succ_eq_append_getElem hlt]
          intro x hm
          rcases List.mem_append.1 hm with hm | hm
          · exact hx x hm
          · rw [List.mem_singleton, hy] at hm
            subst hm
            omega)
        refine ⟨q, Ev.step (fun q => by rw [laws_szStringS_L5]) ?_, h2⟩
        refine ev_pos (by omega) (ev_pos (by omega) (ev_pos (by omega) ?_))
        rw [getD_lt hlt, w64_succ (by omega), hy]
        rw [w64 (n := a' - ((ByteArray.size y : Nat) : Int)) (by omega) (by omega)]
        exact ev_neg (by omega) h1
      · refine ⟨-1, Ev.step (fun q => by rw [laws_szStringS_L5]) ?_, .inl (by omega)⟩
        refine ev_pos (by omega) (ev_pos (by omega) (ev_pos (by omega) ?_))
        rw [getD_lt hlt, hy]
        rw [w64 (n := a' - ((ByteArray.size y : Nat) : Int)) (by omega) (by omega)]
        exact ev_pos (by omega) ev_some
  obtain ⟨q, h1, h2⟩ := key l.length 0 (by omega) (a - (l.length : Int)) (by omega) (fun x hx => by simp at hx)
  refine ⟨q, evG_eq ?_, h2⟩
  unfold laws_szStringS_
  simp only []
  rw [w64 (n := a - ((List.length l : Nat) : Int)) (by omega) (by omega)]
  exact ev_neg (by omega) h1
/- laws_szWindowS -/
theorem laws_szWindowS_eq (l : List (Int × Int)) (hl : l.length ≤ maxLen) (a : Int) (ha : 0 ≤ a ∧ a ≤ 1048576) : g_laws_szWindowS (l, a) = some (if (l.length : Int) ≤ a then a - (l.length : Int) else -1) := by
  rw [maxLen_eq] at hl
  unfold g_laws_szWindowS laws_szWindowS_
  simp only []
  rw [w64 (by omega) (by omega)]
  by_cases h : (l.length : Int) ≤ a
  · rw [if_neg (by omega), if_pos h]
  · rw [if_pos (by omega), if_neg h]
/- laws_szSetup -/
theorem laws_szSetup_some (a0 a1 : List (Int × Int)) (a2 : List (Int × (Int × (Int × (Int × Int))))) (a3 : List (Int × (Int × Int))) (a4 : List ByteArray) (a : Int) (h0 : a0.length ≤ maxLen) (h1 : a1.length ≤ maxLen) (h2 : a2.length ≤ maxLen) (h3 : a3.length ≤ maxLen) (h4 : a4.length ≤ maxLen) (h5 : ∀ x ∈ a4, x.size ≤ maxLen) (ha : 0 ≤ a ∧ a ≤ 1048576) :
    ∃ q, g_laws_szSetup ((a0, a1, a2, a3, a4), a) = some q ∧ (q < 0 ∨ (0 ≤ q ∧ q ≤ a ∧ a0.length ≤ 1048576 ∧ a1.length ≤ 1048576 ∧ a2.length ≤ 1048576 ∧ a3.length ≤ 1048576 ∧ a4.length ≤ 1048576)) := by
  unfold g_laws_szSetup laws_szSetup_
  simp only []
  rw [laws_szRegionS_eq a0 h0 a ha, Option.bind_some]
  by_cases c0 : (a0.length : Int) ≤ a
  case neg => exact ⟨-1, by rw [if_neg c0, if_pos (by omega)], .inl (by omega)⟩
  rw [if_pos c0, if_neg (by omega), laws_szWindowS_eq a1 h1 _ (by omega), Option.bind_some]
  by_cases c1 : (a1.length : Int) ≤ a - (a0.length : Int)
  case neg => exact ⟨-1, by rw [if_neg c1, if_pos (by omega)], .inl (by omega)⟩
  rw [if_pos c1, if_neg (by omega), laws_szPortS_eq a2 h2 _ (by omega), Option.bind_some]
  by_cases c2 : (a2.length : Int) ≤ a - (a0.length : Int) - (a1.length : Int)
  case neg => exact ⟨-1, by rw [if_neg c2, if_pos (by omega)], .inl (by omega)⟩
  rw [if_pos c2, if_neg (by omega), laws_szRuleS_eq a3 h3 _ (by omega), Option.bind_some]
  by_cases c3 : (a3.length : Int) ≤ a - (a0.length : Int) - (a1.length : Int) - (a2.length : Int)
  case neg => exact ⟨-1, by rw [if_neg c3, if_pos (by omega)], .inl (by omega)⟩
  obtain ⟨q, hq, hc⟩ := laws_szStringS_some a4 (a - (a0.length : Int) - (a1.length : Int) - (a2.length : Int) - (a3.length : Int)) h4 h5 (by omega)
  rw [if_pos c3, if_neg (by omega), hq, Option.bind_some]
  rcases hc with hc | ⟨e1, e2, e3, _⟩
  · exact ⟨-1, by rw [if_pos hc], .inl (by omega)⟩
  · exact ⟨q, by rw [if_neg (by omega)], .inr ⟨e1, by omega, by omega, by omega, by omega, by omega, e3⟩⟩
/- laws_szKernel -/
/-- A kernel whose lists are short. -/
structure KSm (a0 a1 : List (Int × Int)) (a2 : List (Int × (Int × (Int × (Int × Int))))) (a3 : List (Int × (Int × Int))) (a4 : List ByteArray) (a5 : List Int) (a6 : List (Int × ((Int × List Int) × (Int × (Int × Int))))) (a7 : List (List (Int × Int))) (a8 : List Int) (a9 : Int) (a10 : Bool) (a11 : List (Int × (Int × (Int × (Int × Int))))) : Prop where
  h0 : a0.length ≤ 1048576
  h1 : a1.length ≤ 1048576
  h2 : a2.length ≤ 1048576
  h3 : a3.length ≤ 1048576
  h4 : a4.length ≤ 1048576
  h5 : a5.length ≤ 1048576
  h6 : a6.length ≤ 1048576
  h7 : a7.length ≤ 1048576
  h8 : a8.length ≤ 1048576
  h11 : a11.length ≤ 1048576
  p6 : ∀ x ∈ a6, x.2.1.2.length ≤ 1048576
  p7 : ∀ x ∈ a7, x.length ≤ 1048576
structure KMx (a0 a1 : List (Int × Int)) (a2 : List (Int × (Int × (Int × (Int × Int))))) (a3 : List (Int × (Int × Int))) (a4 : List ByteArray) (a5 : List Int) (a6 : List (Int × ((Int × List Int) × (Int × (Int × Int))))) (a7 : List (List (Int × Int))) (a8 : List Int) (a9 : Int) (a10 : Bool) (a11 : List (Int × (Int × (Int × (Int × Int))))) : Prop where
  h0 : a0.length ≤ maxLen
  h1 : a1.length ≤ maxLen
  h2 : a2.length ≤ maxLen
  h3 : a3.length ≤ maxLen
  h4 : a4.length ≤ maxLen
  h5 : a5.length ≤ maxLen
  h6 : a6.length ≤ maxLen
  h7 : a7.length ≤ maxLen
  h8 : a8.length ≤ maxLen
  h11 : a11.length ≤ maxLen
  p4 : ∀ x ∈ a4, x.size ≤ maxLen
  p6 : ∀ x ∈ a6, x.2.1.2.length ≤ maxLen
  p7 : ∀ x ∈ a7, x.length ≤ maxLen
theorem laws_szKernel_some (a0 a1 : List (Int × Int)) (a2 : List (Int × (Int × (Int × (Int × Int))))) (a3 : List (Int × (Int × Int))) (a4 : List ByteArray) (a5 : List Int) (a6 : List (Int × ((Int × List Int) × (Int × (Int × Int))))) (a7 : List (List (Int × Int))) (a8 : List Int) (a9 : Int) (a10 : Bool) (a11 : List (Int × (Int × (Int × (Int × Int))))) (h : KMx a0 a1 a2 a3 a4 a5 a6 a7 a8 a9 a10 a11) (a : Int) (ha : 0 ≤ a ∧ a ≤ 1048576) :
    ∃ q, g_laws_szKernel ((a0, a1, a2, a3, a4, a5, a6, a7, a8, a9, a10, a11), a) = some q ∧ (q < 0 ∨ (0 ≤ q ∧ q ≤ a ∧ KSm a0 a1 a2 a3 a4 a5 a6 a7 a8 a9 a10 a11)) := by
  obtain ⟨q0, e0, c0⟩ := laws_szSetup_some a0 a1 a2 a3 a4 a h.h0 h.h1 h.h2 h.h3 h.h4 h.p4 ha
  unfold g_laws_szKernel laws_szKernel_
  simp only []
  rw [e0, Option.bind_some]
  rcases c0 with c0 | ⟨b0, b1, s0, s1, s2, s3, s4⟩
  · exact ⟨-1, by rw [if_pos c0], .inl (by omega)⟩
  rw [if_neg (by omega), laws_szArena_eq a5 h.h5 q0 (by omega), Option.bind_some]
  by_cases c1 : (a5.length : Int) ≤ q0
  case neg => exact ⟨-1, by rw [if_neg c1, if_pos (by omega)], .inl (by omega)⟩
  obtain ⟨q2, e2, c2⟩ := laws_szPartS_some a6 (q0 - (a5.length : Int)) h.h6 h.p6 (by omega)
  rw [if_pos c1, if_neg (by omega), e2, Option.bind_some]
  rcases c2 with c2 | ⟨b2, b3, s6, t6⟩
  · exact ⟨-1, by rw [if_pos c2], .inl (by omega)⟩
  obtain ⟨q3, e3, c3⟩ := laws_szLineS_some a7 q2 h.h7 h.p7 (by omega)
  rw [if_neg (by omega), e3, Option.bind_some]
  rcases c3 with c3 | ⟨b4, b5, s7, t7⟩
  · exact ⟨-1, by rw [if_pos c3], .inl (by omega)⟩
  rw [if_neg (by omega), laws_szIntS_eq a8 h.h8 q3 (by omega), Option.bind_some]
  by_cases c4 : (a8.length : Int) ≤ q3
  case neg => exact ⟨-1, by rw [if_neg c4, if_pos (by omega)], .inl (by omega)⟩
  rw [if_pos c4, if_neg (by omega), laws_szEntryS_eq a11 h.h11 (q3 - (a8.length : Int)) (by omega), Option.bind_some]
  by_cases c5 : (a11.length : Int) ≤ q3 - (a8.length : Int)
  case neg => exact ⟨-1, by rw [if_neg c5, if_pos (by omega)], .inl (by omega)⟩
  rw [if_pos c5, if_neg (by omega)]
  exact ⟨_, rfl, .inr ⟨by omega, by omega, ⟨s0, s1, s2, s3, s4, by omega, s6, s7, by omega, by omega, t6, t7⟩⟩⟩
/- laws_eqKernel -/
-- needs: laws_szKernel
theorem laws_eqKernel_refl (a0 a1 : List (Int × Int)) (a2 : List (Int × (Int × (Int × (Int × Int))))) (a3 : List (Int × (Int × Int))) (a4 : List ByteArray) (a5 : List Int) (a6 : List (Int × ((Int × List Int) × (Int × (Int × Int))))) (a7 : List (List (Int × Int))) (a8 : List Int) (a9 : Int) (a10 : Bool) (a11 : List (Int × (Int × (Int × (Int × Int))))) (h : KSm a0 a1 a2 a3 a4 a5 a6 a7 a8 a9 a10 a11) : g_laws_eqKernel ((a0, a1, a2, a3, a4, a5, a6, a7, a8, a9, a10, a11), (a0, a1, a2, a3, a4, a5, a6, a7, a8, a9, a10, a11)) = some true := by
  have q5 := h.h5
  have q8 := h.h8
  have q11 := h.h11
  unfold g_laws_eqKernel laws_eqKernel_
  simp only [laws_eqSetup_refl a0 a1 a2 a3 a4 h.h0 h.h1 h.h2 h.h3 h.h4, laws_eqArena_refl a5 (by omega), laws_eqPartS_refl a6 h.h6 h.p6, laws_eqLineS_refl a7 h.h7 h.p7, laws_eqIntS_refl a8 (by omega), laws_eqEntryS_refl a11 (by omega), Option.bind_some, if_true, beq_self_eq_true]
/- laws_toEntry -/
theorem laws_toEntry_eq (x : Int × (Int × (Int × (Int × Int)))) : g_laws_toEntry x = some x := by
  obtain ⟨a, b, c, d, e⟩ := x
  rfl
/- laws_toEntryS -/
theorem laws_toEntryS_eq (l : List (Int × (Int × (Int × (Int × Int))))) (hl : l.length ≤ 1048576) : g_laws_toEntryS l = some l := by
  refine evG_eq ?_
  unfold laws_toEntryS_
  refine ev_pos rfl (ev_pos (by omega) (ev_pos (by omega) ?_))
  rw [Int.toNat_natCast]
  refine map_loop (0, (0, (0, (0, 0)))) l (fun k out i => laws_toEntryS_L3 (fun _ => g_laws_toEntry) k (i, l, out, ())) (fun out => ?_) (fun i x out r hx hi ho h => ?_)
  · refine Ev.step (fun q => by rw [laws_toEntryS_L3]) ?_
    exact ev_neg (by omega) ev_some
  · refine Ev.step (fun q => by rw [laws_toEntryS_L3]) ?_
    refine ev_pos (by omega) (ev_pos (by omega) (ev_pos (by omega) (ev_bind (laws_toEntry_eq _) (ev_pos (by omega) (ev_pos (by omega) ?_)))))
    rw [getD_at hx, w64_succ (by omega), Int.toNat_natCast]
    exact h
/- laws_toIntS -/
theorem laws_toIntS_eq (l : List Int) (hl : l.length ≤ 1048576) : g_laws_toIntS l = some l := by
  refine evG_eq ?_
  unfold laws_toIntS_
  refine ev_pos rfl (ev_pos (by omega) (ev_pos (by omega) ?_))
  rw [Int.toNat_natCast]
  refine map_loop 0 l (fun k out i => laws_toIntS_L3 k (i, l, out, ())) (fun out => ?_) (fun i x out r hx hi ho h => ?_)
  · refine Ev.step (fun q => by rw [laws_toIntS_L3]) ?_
    exact ev_neg (by omega) ev_some
  · refine Ev.step (fun q => by rw [laws_toIntS_L3]) ?_
    refine ev_pos (by omega) (ev_pos (by omega) (ev_pos (by omega) (ev_pos (by omega) (ev_pos (by omega) ?_))))
    rw [getD_at hx, w64_succ (by omega), Int.toNat_natCast]
    exact h
/- laws_toMsg -/
theorem laws_toMsg_eq (x : Int × Int) : g_laws_toMsg x = some x := by
  obtain ⟨a, b⟩ := x
  rfl
/- laws_toMsgS -/
theorem laws_toMsgS_eq (l : List (Int × Int)) (hl : l.length ≤ 1048576) : g_laws_toMsgS l = some l := by
  refine evG_eq ?_
  unfold laws_toMsgS_
  refine ev_pos rfl (ev_pos (by omega) (ev_pos (by omega) ?_))
  rw [Int.toNat_natCast]
  refine map_loop (0, 0) l (fun k out i => laws_toMsgS_L3 (fun _ => g_laws_toMsg) k (i, l, out, ())) (fun out => ?_) (fun i x out r hx hi ho h => ?_)
  · refine Ev.step (fun q => by rw [laws_toMsgS_L3]) ?_
    exact ev_neg (by omega) ev_some
  · refine Ev.step (fun q => by rw [laws_toMsgS_L3]) ?_
    refine ev_pos (by omega) (ev_pos (by omega) (ev_pos (by omega) (ev_bind (laws_toMsg_eq _) (ev_pos (by omega) (ev_pos (by omega) ?_)))))
    rw [getD_at hx, w64_succ (by omega), Int.toNat_natCast]
    exact h
/- laws_toLine -/
theorem laws_toLine_eq (l : List (Int × Int)) (hl : l.length ≤ 1048576) : g_laws_toLine l = some l := by
  unfold g_laws_toLine laws_toLine_
  simp only [laws_toMsgS_eq l hl, Option.bind_some]
/- laws_toLineS -/
theorem laws_toLineS_eq (l : List (List (Int × Int))) (hl : l.length ≤ 1048576) (hs : ∀ x ∈ l, x.length ≤ 1048576) : g_laws_toLineS l = some l := by
  refine evG_eq ?_
  unfold laws_toLineS_
  refine ev_pos rfl (ev_pos (by omega) (ev_pos (by omega) ?_))
  rw [Int.toNat_natCast]
  refine map_loop ([] : List (Int × Int)) l (fun k out i => laws_toLineS_L3 (fun _ => g_laws_toLine) k (i, l, out, ())) (fun out => ?_) (fun i x out r hx hi ho h => ?_)
  · refine Ev.step (fun q => by rw [laws_toLineS_L3]) ?_
    exact ev_neg (by omega) ev_some
  · refine Ev.step (fun q => by rw [laws_toLineS_L3]) ?_
    have hm := hs x (List.mem_of_getElem? hx)
    refine ev_pos (by omega) (ev_pos (by omega) (ev_pos (by omega) ?_))
    rw [getD_at hx, w64_succ (by omega), Int.toNat_natCast]
    exact ev_bind (laws_toLine_eq x hm) (ev_pos (by omega) (ev_pos (by omega) h))
/- laws_toCpu -/
theorem laws_toCpu_eq (p : Int) (l : List Int) (hl : l.length ≤ 1048576) : g_laws_toCpu (p, l) = some (p, l) := by
  unfold g_laws_toCpu laws_toCpu_
  simp only [laws_toIntS_eq l hl, Option.bind_some]
/- laws_toPart -/
theorem laws_toPart_eq (s p : Int) (l : List Int) (r : Int × Int × Int) (hl : l.length ≤ 1048576) : g_laws_toPart (s, p, l, r) = some (s, p, l, r) := by
  obtain ⟨x, y, w⟩ := r
  unfold g_laws_toPart laws_toPart_
  simp only [laws_toCpu_eq p l hl, Option.bind_some]
/- laws_toPartS -/
theorem laws_toPartS_eq (l : List (Int × ((Int × List Int) × (Int × (Int × Int))))) (hl : l.length ≤ 1048576) (hs : ∀ x ∈ l, x.2.1.2.length ≤ 1048576) : g_laws_toPartS l = some l := by
  refine evG_eq ?_
  unfold laws_toPartS_
  refine ev_pos rfl (ev_pos (by omega) (ev_pos (by omega) ?_))
  rw [Int.toNat_natCast]
  refine map_loop (0, ((0, ([] : List Int)), (0, (0, 0)))) l (fun k out i => laws_toPartS_L3 (fun _ => g_laws_toPart) k (i, l, out, ())) (fun out => ?_) (fun i x out r hx hi ho h => ?_)
  · refine Ev.step (fun q => by rw [laws_toPartS_L3]) ?_
    exact ev_neg (by omega) ev_some
  · refine Ev.step (fun q => by rw [laws_toPartS_L3]) ?_
    have hm := hs x (List.mem_of_getElem? hx)
    refine ev_pos (by omega) (ev_pos (by omega) (ev_pos (by omega) ?_))
    rw [getD_at hx, w64_succ (by omega), Int.toNat_natCast]
    exact ev_bind (laws_toPart_eq x.1 x.2.1.1 x.2.1.2 x.2.2 hm) (ev_pos (by omega) (ev_pos (by omega) h))
/- laws_toArena -/
theorem laws_toArena_eq (l : List Int) (hl : l.length ≤ 1048576) : g_laws_toArena l = some l := by
  unfold g_laws_toArena laws_toArena_
  simp only [laws_toIntS_eq l hl, Option.bind_some]
/- laws_toStringS -/
theorem laws_toStringS_eq (l : List ByteArray) (hl : l.length ≤ 1048576) : g_laws_toStringS l = some l := by
  refine evG_eq ?_
  unfold laws_toStringS_
  refine ev_pos rfl (ev_pos (by omega) (ev_pos (by omega) ?_))
  rw [Int.toNat_natCast]
  refine map_loop (⟨#[]⟩ : ByteArray) l (fun k out i => laws_toStringS_L3 k (i, l, out, ())) (fun out => ?_) (fun i x out r hx hi ho h => ?_)
  · refine Ev.step (fun q => by rw [laws_toStringS_L3]) ?_
    exact ev_neg (by omega) ev_some
  · refine Ev.step (fun q => by rw [laws_toStringS_L3]) ?_
    refine ev_pos (by omega) (ev_pos (by omega) (ev_pos (by omega) (ev_pos (by omega) (ev_pos (by omega) ?_))))
    rw [getD_at hx, w64_succ (by omega), Int.toNat_natCast]
    exact h
/- laws_toRule -/
theorem laws_toRule_eq (x : Int × (Int × Int)) : g_laws_toRule x = some x := by
  obtain ⟨a, b, c⟩ := x
  rfl
/- laws_toRuleS -/
theorem laws_toRuleS_eq (l : List (Int × (Int × Int))) (hl : l.length ≤ 1048576) : g_laws_toRuleS l = some l := by
  refine evG_eq ?_
  unfold laws_toRuleS_
  refine ev_pos rfl (ev_pos (by omega) (ev_pos (by omega) ?_))
  rw [Int.toNat_natCast]
  refine map_loop (0, (0, 0)) l (fun k out i => laws_toRuleS_L3 (fun _ => g_laws_toRule) k (i, l, out, ())) (fun out => ?_) (fun i x out r hx hi ho h => ?_)
  · refine Ev.step (fun q => by rw [laws_toRuleS_L3]) ?_
    exact ev_neg (by omega) ev_some
  · refine Ev.step (fun q => by rw [laws_toRuleS_L3]) ?_
    refine ev_pos (by omega) (ev_pos (by omega) (ev_pos (by omega) (ev_bind (laws_toRule_eq _) (ev_pos (by omega) (ev_pos (by omega) ?_)))))
    rw [getD_at hx, w64_succ (by omega), Int.toNat_natCast]
    exact h
/- laws_toPort -/
theorem laws_toPort_eq (x : Int × (Int × (Int × (Int × Int)))) : g_laws_toPort x = some x := by
  obtain ⟨a, b, c, d, e⟩ := x
  rfl
/- laws_toPortS -/
theorem laws_toPortS_eq (l : List (Int × (Int × (Int × (Int × Int))))) (hl : l.length ≤ 1048576) : g_laws_toPortS l = some l := by
  refine evG_eq ?_
  unfold laws_toPortS_
  refine ev_pos rfl (ev_pos (by omega) (ev_pos (by omega) ?_))
  rw [Int.toNat_natCast]
  refine map_loop (0, (0, (0, (0, 0)))) l (fun k out i => laws_toPortS_L3 (fun _ => g_laws_toPort) k (i, l, out, ())) (fun out => ?_) (fun i x out r hx hi ho h => ?_)
  · refine Ev.step (fun q => by rw [laws_toPortS_L3]) ?_
    exact ev_neg (by omega) ev_some
  · refine Ev.step (fun q => by rw [laws_toPortS_L3]) ?_
    refine ev_pos (by omega) (ev_pos (by omega) (ev_pos (by omega) (ev_bind (laws_toPort_eq _) (ev_pos (by omega) (ev_pos (by omega) ?_)))))
    rw [getD_at hx, w64_succ (by omega), Int.toNat_natCast]
    exact h
/- laws_toWindow -/
theorem laws_toWindow_eq (x : Int × Int) : g_laws_toWindow x = some x := by
  obtain ⟨a, b⟩ := x
  rfl
/- laws_toWindowS -/
theorem laws_toWindowS_eq (l : List (Int × Int)) (hl : l.length ≤ 1048576) : g_laws_toWindowS l = some l := by
  refine evG_eq ?_
  unfold laws_toWindowS_
  refine ev_pos rfl (ev_pos (by omega) (ev_pos (by omega) ?_))
  rw [Int.toNat_natCast]
  refine map_loop (0, 0) l (fun k out i => laws_toWindowS_L3 (fun _ => g_laws_toWindow) k (i, l, out, ())) (fun out => ?_) (fun i x out r hx hi ho h => ?_)
  · refine Ev.step (fun q => by rw [laws_toWindowS_L3]) ?_
    exact ev_neg (by omega) ev_some
  · refine Ev.step (fun q => by rw [laws_toWindowS_L3]) ?_
    refine ev_pos (by omega) (ev_pos (by omega) (ev_pos (by omega) (ev_bind (laws_toWindow_eq _) (ev_pos (by omega) (ev_pos (by omega) ?_)))))
    rw [getD_at hx, w64_succ (by omega), Int.toNat_natCast]
    exact h
/- laws_toRegion -/
theorem laws_toRegion_eq (x : Int × Int) : g_laws_toRegion x = some x := by
  obtain ⟨a, b⟩ := x
  rfl
/- laws_toRegionS -/
theorem laws_toRegionS_eq (l : List (Int × Int)) (hl : l.length ≤ 1048576) : g_laws_toRegionS l = some l := by
  refine evG_eq ?_
  unfold laws_toRegionS_
  refine ev_pos rfl (ev_pos (by omega) (ev_pos (by omega) ?_))
  rw [Int.toNat_natCast]
  refine map_loop (0, 0) l (fun k out i => laws_toRegionS_L3 (fun _ => g_laws_toRegion) k (i, l, out, ())) (fun out => ?_) (fun i x out r hx hi ho h => ?_)
  · refine Ev.step (fun q => by rw [laws_toRegionS_L3]) ?_
    exact ev_neg (by omega) ev_some
  · refine Ev.step (fun q => by rw [laws_toRegionS_L3]) ?_
    refine ev_pos (by omega) (ev_pos (by omega) (ev_pos (by omega) (ev_bind (laws_toRegion_eq _) (ev_pos (by omega) (ev_pos (by omega) ?_)))))
    rw [getD_at hx, w64_succ (by omega), Int.toNat_natCast]
    exact h
/- laws_toSetup -/
theorem laws_toSetup_eq (a0 a1 : List (Int × Int)) (a2 : List (Int × (Int × (Int × (Int × Int))))) (a3 : List (Int × (Int × Int))) (a4 : List ByteArray) (h0 : a0.length ≤ 1048576) (h1 : a1.length ≤ 1048576) (h2 : a2.length ≤ 1048576) (h3 : a3.length ≤ 1048576) (h4 : a4.length ≤ 1048576) : g_laws_toSetup (a0, a1, a2, a3, a4) = some (a0, a1, a2, a3, a4) := by
  unfold g_laws_toSetup laws_toSetup_
  simp only [laws_toRegionS_eq a0 h0, laws_toWindowS_eq a1 h1, laws_toPortS_eq a2 h2, laws_toRuleS_eq a3 h3, laws_toStringS_eq a4 h4, Option.bind_some]
/- laws_toKernel -/
-- needs: laws_szKernel
theorem laws_toKernel_eq (a0 a1 : List (Int × Int)) (a2 : List (Int × (Int × (Int × (Int × Int))))) (a3 : List (Int × (Int × Int))) (a4 : List ByteArray) (a5 : List Int) (a6 : List (Int × ((Int × List Int) × (Int × (Int × Int))))) (a7 : List (List (Int × Int))) (a8 : List Int) (a9 : Int) (a10 : Bool) (a11 : List (Int × (Int × (Int × (Int × Int))))) (h : KSm a0 a1 a2 a3 a4 a5 a6 a7 a8 a9 a10 a11) : g_laws_toKernel (a0, a1, a2, a3, a4, a5, a6, a7, a8, a9, a10, a11) = some (a0, a1, a2, a3, a4, a5, a6, a7, a8, a9, a10, a11) := by
  unfold g_laws_toKernel laws_toKernel_
  simp only [laws_toSetup_eq a0 a1 a2 a3 a4 h.h0 h.h1 h.h2 h.h3 h.h4, laws_toArena_eq a5 h.h5, laws_toPartS_eq a6 h.h6 h.p6, laws_toLineS_eq a7 h.h7 h.p7, laws_toIntS_eq a8 h.h8, laws_toEntryS_eq a11 h.h11, Option.bind_some]
/- slices_Equal___int_int_ -/
theorem slices_Equal___int_int__dec (l m : List Int) (hl : l.length ≤ 1048576) : g_slices_Equal___int_int_ (l, m) = some (decide (l = m)) := by
  refine evG_eq ?_
  unfold slices_Equal___int_int__
  refine ev_dom (fun h => ?_) (fun h => ?_)
  case refine_2 =>
    have : decide (l = m) = false := decide_eq_false (fun e => h (by rw [e]))
    rw [this]
    exact ev_some
  have hlm : l.length = m.length := by omega
  have key : ∀ (d i : Nat), i + d = l.length → l.take i = m.take i → Ev (fun k => slices_Equal___int_int__L4 k ((l.length : Nat), (i : Int), l, m, ())) (decide (l = m)) := by
    intro d
    induction d with
    | zero =>
      intro i hi ht
      have hd : decide (l = m) = true := by
        refine decide_eq_true ?_
        rw [List.take_of_length_le (by omega), List.take_of_length_le (by omega)] at ht
        exact ht
      rw [hd]
      refine Ev.step (fun q => by rw [slices_Equal___int_int__L4]) ?_
      exact ev_neg (by omega) ev_some
    | succ d ih =>
      intro i hi ht
      have h1 : i < l.length := by omega
      have h2 : i < m.length := by omega
      refine Ev.step (fun q => by rw [slices_Equal___int_int__L4]) ?_
      refine ev_pos (by omega) (ev_pos (by omega) (ev_pos (by omega) (ev_pos (by omega) (ev_pos (by omega) ?_))))
      rw [getD_lt h1, getD_lt h2, w64_succ (by omega)]
      refine ev_dom (fun he => ?_) (fun he => ?_)
      · exact ih (i + 1) (by omega) (by rw [List.take_succ_eq_append_getElem h1, List.take_succ_eq_append_getElem h2, ht, he])
      · have hd : decide (l = m) = false := decide_eq_false (fun e => he (by subst e; rfl))
        rw [hd]
        exact ev_some
  exact key l.length 0 (by omega) rfl
/- impl_samePart -/
theorem impl_samePart_dec (x y : Int × ((Int × List Int) × (Int × (Int × Int)))) (hl : x.2.1.2.length ≤ 1048576) : g_impl_samePart ((x.1, x.2.1.1, x.2.1.2, x.2.2), (y.1, y.2.1.1, y.2.1.2, y.2.2)) = some (decide (x = y)) := by
  obtain ⟨a, ⟨b, c⟩, d, e, f⟩ := x
  obtain ⟨a', ⟨b', c'⟩, d', e', f'⟩ := y
  unfold g_impl_samePart impl_samePart_
  simp only [slices_Equal___int_int__dec c c' hl, Option.bind_some]
  repeat' split
  all_goals simp_all
/- impl_copyInts -/
theorem impl_copyInts_eq (l : List Int) (hl : l.length ≤ 1048576) : g_impl_copyInts l = some l := by
  show (if (((List.length ([] : List Int) + List.length l : Nat) : Int) * ((8 : Nat) : Int)) ≤ 140737488355328 then some (([] : List Int) ++ l) else none) = _
  rw [if_pos (by simp only [List.length_nil]; omega)]
  rfl
/- impl_cellAt -/
/-- The cells that a region has. -/
def cnt (n : Nat) (b s : Int) : Nat := if 0 ≤ b then (min s ((n : Int) - b)).toNat else 0
theorem impl_cellAt_lt (l : List Int) (b s : Int) (i : Nat) (hl : l.length ≤ 1048576) (hb : I64 b) (h : i < cnt l.length b s) : g_impl_cellAt (l, (b, s), (i : Int)) = some (b + i) ∧ 0 ≤ b ∧ b + i < l.length ∧ (i : Int) < s := by
  unfold cnt at h
  unfold I64 at hb
  split at h
  · rename_i h0
    refine ⟨?_, h0, by omega, by omega⟩
    unfold g_impl_cellAt impl_cellAt_
    simp only []
    rw [w64 (by omega) (by omega), if_neg (by omega), if_neg (by omega), if_neg (by omega), if_neg (by omega), w64 (by omega) (by omega)]
  · omega
theorem impl_cellAt_ge (l : List Int) (b s : Int) (i : Nat) (hl : l.length ≤ 1048576) (hb : I64 b) (h : cnt l.length b s ≤ i) : g_impl_cellAt (l, (b, s), (i : Int)) = some (-1) := by
  unfold cnt at h
  unfold I64 at hb
  unfold g_impl_cellAt impl_cellAt_
  simp only []
  split at h
  · rename_i h0
    rw [w64 (by omega) (by omega), if_neg (by omega), if_neg (by omega)]
    by_cases h1 : s ≤ i
    · rw [if_pos h1]
    · rw [if_neg h1, if_pos (by omega)]
  · rw [if_pos (by omega)]
/- impl_CellsOf -/
theorem take_next (l : List Int) (b : Int) (i : Nat) (h0 : 0 ≤ b) (h : b + i < l.length) : (l.drop b.toNat).take i ++ [l.getD (b + i).toNat 0] = (l.drop b.toNat).take (i + 1) := by
  have hlt : i < (l.drop b.toNat).length := by rw [List.length_drop]; omega
  rw [List.take_succ_eq_append_getElem hlt, List.getElem_drop, List.getD_eq_getElem?_getD, List.getElem?_eq_getElem (by omega), Option.getD_some]
  congr 3
  omega
theorem impl_CellsOf_eq (l : List Int) (b s : Int) (hl : l.length ≤ 1048576) (hb : I64 b) : g_impl_CellsOf (l, (b, s)) = some ((l.drop b.toNat).take (cnt l.length b s)) := by
  refine evG_eq ?_
  unfold impl_CellsOf_
  have key : ∀ (d i : Nat), i + d = cnt l.length b s → Ev (fun k => impl_CellsOf_L3 (fun _ => g_impl_cellAt) k ((i : Int), l, b, s, (l.drop b.toNat).take i, ())) ((l.drop b.toNat).take (cnt l.length b s)) := by
    intro d
    induction d with
    | zero =>
      intro i hi
      refine Ev.step (fun q => by rw [impl_CellsOf_L3]) ?_
      refine ev_bind (impl_cellAt_ge l b s i hl hb (by omega)) (ev_neg (by omega) ?_)
      rw [show i = cnt l.length b s by omega]
      exact ev_some
    | succ d ih =>
      intro i hi
      obtain ⟨e, h0, h1, h2⟩ := impl_cellAt_lt l b s i hl hb (by omega)
      have hw : wrap64 (b + (i : Int)) = b + i := w64 (by omega) (by omega)
      refine Ev.step (fun q => by rw [impl_CellsOf_L3]) ?_
      refine ev_bind e (ev_pos (by omega) ?_)
      rw [hw, w64_succ (by omega)]
      refine ev_pos (by omega) (ev_pos (by omega) (ev_pos ?_ ?_))
      · simp only [List.length_take, List.length_cons, List.length_nil]
        omega
      · rw [take_next l b i h0 h1]
        exact ih (i + 1) (by omega)
  exact key (cnt l.length b s) 0 (by omega)
/- impl_copyCpu -/
theorem impl_copyCpu_eq (p : Int) (l : List Int) (hl : l.length ≤ 1048576) : g_impl_copyCpu (p, l) = some (p, l) := by
  unfold g_impl_copyCpu impl_copyCpu_
  simp only [impl_copyInts_eq l hl, Option.bind_some]
/- impl_copyPart -/
theorem impl_copyPart_eq (s p : Int) (l : List Int) (r : Int × Int × Int) (hl : l.length ≤ 1048576) : g_impl_copyPart (s, p, l, r) = some (s, p, l, r) := by
  obtain ⟨x, y, w⟩ := r
  unfold g_impl_copyPart impl_copyPart_
  simp only [impl_copyCpu_eq p l hl, Option.bind_some]
/- impl_within -/
theorem impl_within_eq (a b c : Int) : g_impl_within (a, b, c) = some (decide (b ≤ a ∧ a ≤ c)) := by
  show (if b ≤ a then some (decide (a ≤ c)) else some false) = _
  split
  · rename_i h; refine eq_dec ?_; rw [decide_eq_true_iff]; omega
  · rename_i h; exact dec_no (by omega)
/- impl_PartView -/
-- needs: laws_szKernel
theorem drop_two (l : List Int) (p : Nat) (h0 : 1 ≤ p) (h : 2 * p ≤ l.length) : (l.take (2 * p)).drop (2 * p - 2) = [l.getD (2 * p - 2) 0, l.getD (2 * p - 1) 0] := by
  apply List.ext_getElem?
  intro j
  rw [List.getElem?_drop, List.getElem?_take]
  match j with
  | 0 =>
    rw [if_pos (by omega)]
    simp [List.getD_eq_getElem?_getD, List.getElem?_eq_getElem (show 2 * p - 2 < l.length by omega)]
  | 1 =>
    rw [if_pos (by omega)]
    have e : 2 * p - 2 + 1 = 2 * p - 1 := by omega
    rw [e]
    simp [List.getD_eq_getElem?_getD, List.getElem?_eq_getElem (show 2 * p - 1 < l.length by omega)]
  | j + 2 =>
    rw [if_neg (by omega)]
    simp
/-- What there is to be seen of a part. -/
def pview (a0 : List (Int × Int)) (a5 : List Int) (a6 : List (Int × ((Int × List Int) × (Int × (Int × Int))))) (a8 : List Int) (p : Int) : (Int × ((Int × List Int) × (Int × (Int × Int)))) × List Int × List Int :=
  if (1 ≤ p ∧ p ≤ a6.length) ∧ p ≤ a0.length ∧ 2 * p ≤ a8.length then (a6.getD (p - 1).toNat (0, ((0, []), (0, (0, 0)))), (a5.drop (a0.getD (p - 1).toNat (0, 0)).1.toNat).take (cnt a5.length (a0.getD (p - 1).toNat (0, 0)).1 (a0.getD (p - 1).toNat (0, 0)).2), [a8.getD (2 * p - 2).toNat 0, a8.getD (2 * p - 1).toNat 0])
  else ((0, ((0, []), (0, (0, 0)))), [], [])
/-- The same, as the walk has its parts. -/
def flatP (x : (Int × ((Int × List Int) × (Int × (Int × Int)))) × List Int × List Int) : (Int × Int × List Int × Int × Int × Int) × List Int × List Int := ((x.1.1, x.1.2.1.1, x.1.2.1.2, x.1.2.2), x.2)
theorem impl_PartView_eq (a0 a1 : List (Int × Int)) (a2 : List (Int × (Int × (Int × (Int × Int))))) (a3 : List (Int × (Int × Int))) (a4 : List ByteArray) (a5 : List Int) (a6 : List (Int × ((Int × List Int) × (Int × (Int × Int))))) (a7 : List (List (Int × Int))) (a8 : List Int) (a9 : Int) (a10 : Bool) (a11 : List (Int × (Int × (Int × (Int × Int))))) (h : KSm a0 a1 a2 a3 a4 a5 a6 a7 a8 a9 a10 a11) (hr : ∀ x ∈ a0, I64 x.1) (p : Int) : g_impl_PartView ((a0, a1, a2, a3, a4, a5, a6, a7, a8, a9, a10, a11), p) = some (flatP (pview a0 a5 a6 a8 p)) := by
  have q6 := h.h6
  have q8 := h.h8
  unfold g_impl_PartView impl_PartView_
  simp only [impl_within_eq, Option.bind_some]
  by_cases h1 : 1 ≤ p ∧ p ≤ ((List.length a6 : Nat) : Int)
  case neg =>
    rw [if_neg (by simpa using h1)]
    unfold pview
    rw [if_neg (fun q => h1 q.1)]
    rfl
  rw [if_pos (decide_eq_true h1)]
  by_cases h2 : ((List.length a0 : Nat) : Int) < p
  · rw [if_pos h2]
    unfold pview
    rw [if_neg (fun q => by omega)]
    rfl
  rw [if_neg h2, w64 (n := 2 * p) (by omega) (by omega)]
  by_cases h3 : ((List.length a8 : Nat) : Int) < 2 * p
  · rw [if_pos h3]
    unfold pview
    rw [if_neg (fun q => by omega)]
    rfl
  rw [if_neg h3, w64 (n := p - 1) (by omega) (by omega), w64 (n := 2 * p - 2) (by omega) (by omega)]
  have hlt6 : (p - 1).toNat < a6.length := by omega
  have hlt0 : (p - 1).toNat < a0.length := by omega
  have hst : (a6.getD (p - 1).toNat (0, ((0, []), (0, (0, 0))))).2.1.2.length ≤ 1048576 := by
    rw [List.getD_eq_getElem?_getD, List.getElem?_eq_getElem hlt6, Option.getD_some]
    exact h.p6 _ (List.getElem_mem hlt6)
  have hrg : I64 (a0.getD (p - 1).toNat (0, 0)).1 := by
    rw [List.getD_eq_getElem?_getD, List.getElem?_eq_getElem hlt0, Option.getD_some]
    exact hr _ (List.getElem_mem hlt0)
  rw [if_pos (by omega), if_pos (by omega), if_pos (by omega), if_pos (by omega), impl_copyPart_eq _ _ _ _ hst, Option.bind_some]
  rw [show a0.getD (p - 1).toNat (0, 0) = ((a0.getD (p - 1).toNat (0, 0)).1, (a0.getD (p - 1).toNat (0, 0)).2) from rfl, impl_CellsOf_eq a5 _ _ h.h5 hrg, Option.bind_some]
  rw [if_pos (by omega), if_pos (by omega), if_pos (by omega), if_pos (by omega)]
  have e1 : (2 * p).toNat = 2 * p.toNat := by omega
  have e2 : (2 * p - 2).toNat = 2 * p.toNat - 2 := by omega
  have e3 : (2 * p - 1).toNat = 2 * p.toNat - 1 := by omega
  rw [e1, e2, drop_two a8 p.toNat (by omega) (by omega), impl_copyInts_eq _ (by simp), Option.bind_some]
  unfold pview
  rw [if_pos ⟨h1, by omega, by omega⟩, e2, e3]
  rfl
/- impl_Apart -/
theorem pview_small (a0 a1 : List (Int × Int)) (a2 : List (Int × (Int × (Int × (Int × Int))))) (a3 : List (Int × (Int × Int))) (a4 : List ByteArray) (a5 : List Int) (a6 : List (Int × ((Int × List Int) × (Int × (Int × Int))))) (a7 : List (List (Int × Int))) (a8 : List Int) (a9 : Int) (a10 : Bool) (a11 : List (Int × (Int × (Int × (Int × Int))))) (h : KSm a0 a1 a2 a3 a4 a5 a6 a7 a8 a9 a10 a11) (p : Int) : (pview a0 a5 a6 a8 p).1.2.1.2.length ≤ 1048576 ∧ (pview a0 a5 a6 a8 p).2.1.length ≤ 1048576 ∧ (pview a0 a5 a6 a8 p).2.2.length ≤ 1048576 := by
  unfold pview
  have h5 := h.h5
  split
  · rename_i hp
    have hlt6 : (p - 1).toNat < a6.length := by omega
    refine ⟨?_, ?_, ?_⟩
    · rw [List.getD_eq_getElem?_getD, List.getElem?_eq_getElem hlt6, Option.getD_some]
      exact h.p6 _ (List.getElem_mem hlt6)
    · simp only [List.length_take, List.length_drop]
      omega
    · simp
  · simp
theorem impl_Apart_eq (a0 a1 : List (Int × Int)) (a2 : List (Int × (Int × (Int × (Int × Int))))) (a3 : List (Int × (Int × Int))) (a4 : List ByteArray) (a5 : List Int) (a6 : List (Int × ((Int × List Int) × (Int × (Int × Int))))) (a7 : List (List (Int × Int))) (a8 : List Int) (a9 : Int) (a10 : Bool) (a11 : List (Int × (Int × (Int × (Int × Int))))) (h : KSm a0 a1 a2 a3 a4 a5 a6 a7 a8 a9 a10 a11) (hr : ∀ x ∈ a0, I64 x.1) (b0 b1 : List (Int × Int)) (b2 : List (Int × (Int × (Int × (Int × Int))))) (b3 : List (Int × (Int × Int))) (b4 : List ByteArray) (b5 : List Int) (b6 : List (Int × ((Int × List Int) × (Int × (Int × Int))))) (b7 : List (List (Int × Int))) (b8 : List Int) (b9 : Int) (b10 : Bool) (b11 : List (Int × (Int × (Int × (Int × Int))))) (h' : KSm b0 b1 b2 b3 b4 b5 b6 b7 b8 b9 b10 b11) (hr' : ∀ x ∈ b0, I64 x.1) (p : Int) : g_impl_Apart ((a0, a1, a2, a3, a4, a5, a6, a7, a8, a9, a10, a11), (b0, b1, b2, b3, b4, b5, b6, b7, b8, b9, b10, b11), p) = some (decide (pview a0 a5 a6 a8 p = pview b0 b5 b6 b8 p)) := by
  obtain ⟨s1, s2, s3⟩ := pview_small a0 a1 a2 a3 a4 a5 a6 a7 a8 a9 a10 a11 h p
  unfold g_impl_Apart impl_Apart_
  simp only []
  rw [impl_PartView_eq a0 a1 a2 a3 a4 a5 a6 a7 a8 a9 a10 a11 h hr p, Option.bind_some, impl_PartView_eq b0 b1 b2 b3 b4 b5 b6 b7 b8 b9 b10 b11 h' hr' p, Option.bind_some]
  generalize pview a0 a5 a6 a8 p = u at s1 s2 s3
  generalize pview b0 b5 b6 b8 p = v
  obtain ⟨u1, u2, u3⟩ := u
  obtain ⟨v1, v2, v3⟩ := v
  show ((g_impl_samePart ((u1.1, u1.2.1.1, u1.2.1.2, u1.2.2), (v1.1, v1.2.1.1, v1.2.1.2, v1.2.2))).bind fun v2_1 => if v2_1 = true then (g_slices_Equal___int_int_ (u2, v2)).bind fun v3_1 => if v3_1 = true then (g_slices_Equal___int_int_ (u3, v3)).bind fun v4 => some v4 else some false else some false) = _
  rw [impl_samePart_dec u1 v1 s1, slices_Equal___int_int__dec u2 v2 s2, slices_Equal___int_int__dec u3 v3 s3]
  simp only [Option.bind_some]
  repeat' split
  all_goals simp_all
/- spec_l19Same -/
theorem spec_l19Same_dec (l m : List Int) (hl : l.length ≤ 1048576) : g_spec_l19Same (l, m) = some (decide (l = m)) := by
  refine evG_eq ?_
  unfold spec_l19Same_
  refine ev_dom (fun h => ?_) (fun h => ?_)
  case refine_2 =>
    have : decide (l = m) = false := decide_eq_false (fun e => h (by rw [e]))
    rw [this]
    exact ev_some
  have hlm : l.length = m.length := by omega
  have key : ∀ (d i : Nat), i + d = l.length → l.take i = m.take i → Ev (fun k => spec_l19Same_L4 k ((i : Int), l, m, ())) (decide (l = m)) := by
    intro d
    induction d with
    | zero =>
      intro i hi ht
      have hd : decide (l = m) = true := by
        refine decide_eq_true ?_
        rw [List.take_of_length_le (by omega), List.take_of_length_le (by omega)] at ht
        exact ht
      rw [hd]
      refine Ev.step (fun q => by rw [spec_l19Same_L4]) ?_
      exact ev_neg (by omega) ev_some
    | succ d ih =>
      intro i hi ht
      have h1 : i < l.length := by omega
      have h2 : i < m.length := by omega
      refine Ev.step (fun q => by rw [spec_l19Same_L4]) ?_
      refine ev_pos (by omega) (ev_pos (by omega) (ev_pos (by omega) (ev_pos (by omega) (ev_pos (by omega) ?_))))
      rw [getD_lt h1, getD_lt h2, w64_succ (by omega)]
      refine ev_dom (fun he => ?_) (fun he => ?_)
      · exact ih (i + 1) (by omega) (by rw [List.take_succ_eq_append_getElem h1, List.take_succ_eq_append_getElem h2, ht, he])
      · have hd : decide (l = m) = false := decide_eq_false (fun e => he (by subst e; rfl))
        rw [hd]
        exact ev_some
  exact key l.length 0 (by omega) rfl
/- spec_l01In -/
theorem spec_l01In_eq (a b c : Int) : g_spec_l01In (a, b, c) = some (decide (b ≤ a ∧ a ≤ c)) := by
  show (if b ≤ a then some (decide (a ≤ c)) else some false) = _
  split
  · rename_i h; refine eq_dec ?_; rw [decide_eq_true_iff]; omega
  · rename_i h; exact dec_no (by omega)
/- spec_l04At -/
-- needs: impl_cellAt
theorem spec_l04At_lt (l : List Int) (b s : Int) (i : Nat) (hl : l.length ≤ 1048576) (hb : I64 b) (h : i < cnt l.length b s) : g_spec_l04At (l, (b, s), (i : Int)) = some (b + i) := by
  unfold cnt at h
  unfold I64 at hb
  split at h
  · rename_i h0
    unfold g_spec_l04At spec_l04At_
    simp only [spec_l01In_eq, Option.bind_some]
    rw [w64 (n := ((List.length l : Nat) : Int) - 1) (by omega) (by omega), if_neg (by omega), if_neg (by omega), if_pos (decide_eq_true (by omega)), w64 (by omega) (by omega), if_neg (by omega), w64 (by omega) (by omega)]
  · omega
theorem spec_l04At_ge (l : List Int) (b s : Int) (i : Nat) (hl : l.length ≤ 1048576) (hb : I64 b) (h : cnt l.length b s ≤ i) : g_spec_l04At (l, (b, s), (i : Int)) = some (-1) := by
  unfold cnt at h
  unfold I64 at hb
  unfold g_spec_l04At spec_l04At_
  simp only [spec_l01In_eq, Option.bind_some]
  rw [w64 (n := ((List.length l : Nat) : Int) - 1) (by omega) (by omega), if_neg (by omega)]
  by_cases h1 : s ≤ i
  · rw [if_pos h1]
  · rw [if_neg h1]
    by_cases h2 : 0 ≤ b ∧ b ≤ ((List.length l : Nat) : Int) - 1
    · rw [if_pos (decide_eq_true h2), w64 (by omega) (by omega), if_pos]
      rw [if_pos h2.1] at h
      omega
    · rw [if_neg (by simpa using h2)]
/- spec_CellsOf -/
-- needs: impl_CellsOf
theorem spec_CellsOf_eq (l : List Int) (b s : Int) (hl : l.length ≤ 1048576) (hb : I64 b) : g_spec_CellsOf (l, (b, s)) = some ((l.drop b.toNat).take (cnt l.length b s)) := by
  refine evG_eq ?_
  unfold spec_CellsOf_
  have hc : cnt l.length b s ≤ min s.toNat l.length := by unfold cnt; split <;> omega
  have key : ∀ (d i : Nat), i + d = min s.toNat l.length → Ev (fun k => spec_CellsOf_L3 (fun _ => g_spec_l04At) k ((i : Int), l, b, s, (l.drop b.toNat).take (min i (cnt l.length b s)), ())) ((l.drop b.toNat).take (cnt l.length b s)) := by
    intro d
    induction d with
    | zero =>
      intro i hi
      refine Ev.step (fun q => by rw [spec_CellsOf_L3]) ?_
      rw [Nat.min_eq_right (by omega)]
      refine ev_dom (fun h1 => ?_) (fun h1 => ev_some)
      exact ev_neg (by omega) ev_some
    | succ d ih =>
      intro i hi
      refine Ev.step (fun q => by rw [spec_CellsOf_L3]) ?_
      refine ev_pos (by omega) (ev_pos (by omega) ?_)
      by_cases hlt : i < cnt l.length b s
      · obtain ⟨_, h0, h1, h2⟩ := impl_cellAt_lt l b s i hl hb hlt
        refine ev_bind (spec_l04At_lt l b s i hl hb hlt) (ev_pos (by omega) ?_)
        rw [w64_succ (by omega), Nat.min_eq_left (by omega)]
        refine ev_pos (by omega) (ev_pos (by omega) (ev_pos ?_ ?_))
        · simp only [List.length_take, List.length_cons, List.length_nil]
          omega
        · rw [take_next l b i h0 h1]
          have := ih (i + 1) (by omega)
          rw [Nat.min_eq_left (by omega)] at this
          exact this
      · refine ev_bind (spec_l04At_ge l b s i hl hb (by omega)) (ev_neg (by omega) ?_)
        rw [w64_succ (by omega), Nat.min_eq_right (by omega)]
        have := ih (i + 1) (by omega)
        rw [Nat.min_eq_right (by omega)] at this
        exact this
  have := key (min s.toNat l.length) 0 (by omega)
  rw [Nat.min_eq_left (by omega)] at this
  exact this
/- spec_l06Copy -/
theorem spec_l06Copy_eq (p : Int) (l : List Int) (hl : l.length ≤ 1048576) : g_spec_l06Copy (p, l) = some (p, l) := by
  show (if (((List.length ([] : List Int) + List.length l : Nat) : Int) * ((8 : Nat) : Int)) ≤ 140737488355328 then some (p, (([] : List Int) ++ l)) else none) = _
  rw [if_pos (by simp only [List.length_nil]; omega)]
  rfl
/- spec_PartView -/
-- needs: impl_PartView
theorem spec_PartView_eq (a0 a1 : List (Int × Int)) (a2 : List (Int × (Int × (Int × (Int × Int))))) (a3 : List (Int × (Int × Int))) (a4 : List ByteArray) (a5 : List Int) (a6 : List (Int × ((Int × List Int) × (Int × (Int × Int))))) (a7 : List (List (Int × Int))) (a8 : List Int) (a9 : Int) (a10 : Bool) (a11 : List (Int × (Int × (Int × (Int × Int))))) (h : KSm a0 a1 a2 a3 a4 a5 a6 a7 a8 a9 a10 a11) (hr : ∀ x ∈ a0, I64 x.1) (p : Int) : g_spec_PartView ((a0, a1, a2, a3, a4, a5, a6, a7, a8, a9, a10, a11), p) = some (flatP (pview a0 a5 a6 a8 p)) := by
  have q6 := h.h6
  have q8 := h.h8
  unfold g_spec_PartView spec_PartView_
  simp only [spec_l01In_eq, Option.bind_some]
  by_cases h1 : 1 ≤ p ∧ p ≤ ((List.length a6 : Nat) : Int)
  case neg =>
    rw [if_neg (by simpa using h1)]
    unfold pview
    rw [if_neg (fun q => h1 q.1)]
    rfl
  rw [if_pos (decide_eq_true h1)]
  by_cases h2 : ((List.length a0 : Nat) : Int) < p
  · rw [if_pos h2]
    unfold pview
    rw [if_neg (fun q => by omega)]
    rfl
  rw [if_neg h2, w64 (n := 2 * p) (by omega) (by omega)]
  by_cases h3 : ((List.length a8 : Nat) : Int) < 2 * p
  · rw [if_pos h3]
    unfold pview
    rw [if_neg (fun q => by omega)]
    rfl
  rw [if_neg h3, w64 (n := p - 1) (by omega) (by omega), w64 (n := 2 * p - 2) (by omega) (by omega), w64 (n := 2 * p - 1) (by omega) (by omega)]
  have hlt6 : (p - 1).toNat < a6.length := by omega
  have hlt0 : (p - 1).toNat < a0.length := by omega
  have hst : (a6.getD (p - 1).toNat (0, ((0, []), (0, (0, 0))))).2.1.2.length ≤ 1048576 := by
    rw [List.getD_eq_getElem?_getD, List.getElem?_eq_getElem hlt6, Option.getD_some]
    exact h.p6 _ (List.getElem_mem hlt6)
  have hrg : I64 (a0.getD (p - 1).toNat (0, 0)).1 := by
    rw [List.getD_eq_getElem?_getD, List.getElem?_eq_getElem hlt0, Option.getD_some]
    exact hr _ (List.getElem_mem hlt0)
  rw [if_pos (by omega), if_pos (by omega)]
  rw [show (a6.getD (p - 1).toNat (0, ((0, []), (0, (0, 0))))).2.1 = ((a6.getD (p - 1).toNat (0, ((0, []), (0, (0, 0))))).2.1.1, (a6.getD (p - 1).toNat (0, ((0, []), (0, (0, 0))))).2.1.2) from rfl, spec_l06Copy_eq _ _ hst, Option.bind_some]
  rw [if_pos (by omega), if_pos (by omega), if_pos (by omega), if_pos (by omega), if_pos (by omega), if_pos (by omega)]
  rw [show a0.getD (p - 1).toNat (0, 0) = ((a0.getD (p - 1).toNat (0, 0)).1, (a0.getD (p - 1).toNat (0, 0)).2) from rfl, spec_CellsOf_eq a5 _ _ h.h5 hrg, Option.bind_some]
  unfold pview
  rw [if_pos ⟨h1, by omega, by omega⟩]
  rfl
/- spec_Apart -/
-- needs: impl_Apart
theorem spec_Apart_eq (a0 a1 : List (Int × Int)) (a2 : List (Int × (Int × (Int × (Int × Int))))) (a3 : List (Int × (Int × Int))) (a4 : List ByteArray) (a5 : List Int) (a6 : List (Int × ((Int × List Int) × (Int × (Int × Int))))) (a7 : List (List (Int × Int))) (a8 : List Int) (a9 : Int) (a10 : Bool) (a11 : List (Int × (Int × (Int × (Int × Int))))) (h : KSm a0 a1 a2 a3 a4 a5 a6 a7 a8 a9 a10 a11) (hr : ∀ x ∈ a0, I64 x.1) (b0 b1 : List (Int × Int)) (b2 : List (Int × (Int × (Int × (Int × Int))))) (b3 : List (Int × (Int × Int))) (b4 : List ByteArray) (b5 : List Int) (b6 : List (Int × ((Int × List Int) × (Int × (Int × Int))))) (b7 : List (List (Int × Int))) (b8 : List Int) (b9 : Int) (b10 : Bool) (b11 : List (Int × (Int × (Int × (Int × Int))))) (h' : KSm b0 b1 b2 b3 b4 b5 b6 b7 b8 b9 b10 b11) (hr' : ∀ x ∈ b0, I64 x.1) (p : Int) : g_spec_Apart ((a0, a1, a2, a3, a4, a5, a6, a7, a8, a9, a10, a11), (b0, b1, b2, b3, b4, b5, b6, b7, b8, b9, b10, b11), p) = some (decide (pview a0 a5 a6 a8 p = pview b0 b5 b6 b8 p)) := by
  obtain ⟨s1, s2, s3⟩ := pview_small a0 a1 a2 a3 a4 a5 a6 a7 a8 a9 a10 a11 h p
  unfold g_spec_Apart spec_Apart_
  simp only []
  rw [spec_PartView_eq a0 a1 a2 a3 a4 a5 a6 a7 a8 a9 a10 a11 h hr p, Option.bind_some, spec_PartView_eq b0 b1 b2 b3 b4 b5 b6 b7 b8 b9 b10 b11 h' hr' p, Option.bind_some]
  generalize pview a0 a5 a6 a8 p = u at s1 s2 s3
  generalize pview b0 b5 b6 b8 p = v
  obtain ⟨⟨x1, ⟨x2, x3⟩, x4, x5, x6⟩, u2, u3⟩ := u
  obtain ⟨⟨y1, ⟨y2, y3⟩, y4, y5, y6⟩, v2, v3⟩ := v
  simp only [flatP]
  simp only [] at s1 s2 s3
  rw [spec_l19Same_dec x3 y3 s1, spec_l19Same_dec u2 v2 s2, spec_l19Same_dec u3 v3 s3]
  simp only [Option.bind_some]
  repeat' split
  all_goals simp_all
/- laws_FnExactApart -/
-- @hx
theorem kmx (a0 a1 : List (Int × Int)) (a2 : List (Int × (Int × (Int × (Int × Int))))) (a3 : List (Int × (Int × Int))) (a4 : List ByteArray) (a5 : List Int) (a6 : List (Int × ((Int × List Int) × (Int × (Int × Int))))) (a7 : List (List (Int × Int))) (a8 : List Int) (a9 : Int) (a10 : Bool) (a11 : List (Int × (Int × (Int × (Int × Int))))) (h : CKs.good [.sl (.pair (.int .i64) (.int .i64)), .sl (.pair (.int .i64) (.int .i64)), .sl (.pair (.int .i64) (.pair (.int .i64) (.pair (.int .i64) (.pair (.int .i64) (.int .i64))))), .sl (.pair (.int .i64) (.pair (.int .i64) (.int .i64))), .sl .str, .sl (.int .i64), .nsl (.pair (.f (.int .i64)) (.pair (.pair (.f (.int .i64)) (.sl (.int .i64))) (.pair (.f (.int .i64)) (.pair (.f (.int .i64)) (.f (.int .i64)))))), .nsl (.sl (.pair (.int .i64) (.int .i64))), .sl (.int .i64), .int .i64, .bool, .sl (.pair (.int .i64) (.pair (.int .i64) (.pair (.int .i64) (.pair (.int .i64) (.int .i64)))))] (a0, a1, a2, a3, a4, a5, a6, a7, a8, a9, a10, a11)) : KMx a0 a1 a2 a3 a4 a5 a6 a7 a8 a9 a10 a11 ∧ ∀ x ∈ a0, I64 x.1 :=
  ⟨⟨h.1.1, h.2.1.1, h.2.2.1.1, h.2.2.2.1.1, h.2.2.2.2.1.1, h.2.2.2.2.2.1.1, h.2.2.2.2.2.2.1.1, h.2.2.2.2.2.2.2.1.1, h.2.2.2.2.2.2.2.2.1.1, h.2.2.2.2.2.2.2.2.2.2.2.1, fun x hx => h.2.2.2.2.1.2 x hx, fun x hx => (h.2.2.2.2.2.2.1.2 x hx).2.1.2.1, fun x hx => (h.2.2.2.2.2.2.2.1.2 x hx).1⟩, fun x hx => wf64 (h.1.2 x hx).1⟩
theorem t_FnExactApart (x : (List (Int × Int) × List (Int × Int) × List (Int × (Int × (Int × (Int × Int)))) × List (Int × (Int × Int)) × List ByteArray × List Int × List (Int × ((Int × List Int) × (Int × (Int × Int)))) × List (List (Int × Int)) × List Int × Int × Bool × List (Int × (Int × (Int × (Int × Int))))) × (List (Int × Int) × List (Int × Int) × List (Int × (Int × (Int × (Int × Int)))) × List (Int × (Int × Int)) × List ByteArray × List Int × List (Int × ((Int × List Int) × (Int × (Int × Int)))) × List (List (Int × Int)) × List Int × Int × Bool × List (Int × (Int × (Int × (Int × Int))))) × Int) (hx : AKs.good [.agg [.sl (.pair (.int .i64) (.int .i64)), .sl (.pair (.int .i64) (.int .i64)), .sl (.pair (.int .i64) (.pair (.int .i64) (.pair (.int .i64) (.pair (.int .i64) (.int .i64))))), .sl (.pair (.int .i64) (.pair (.int .i64) (.int .i64))), .sl .str, .sl (.int .i64), .nsl (.pair (.f (.int .i64)) (.pair (.pair (.f (.int .i64)) (.sl (.int .i64))) (.pair (.f (.int .i64)) (.pair (.f (.int .i64)) (.f (.int .i64)))))), .nsl (.sl (.pair (.int .i64) (.int .i64))), .sl (.int .i64), .int .i64, .bool, .sl (.pair (.int .i64) (.pair (.int .i64) (.pair (.int .i64) (.pair (.int .i64) (.int .i64)))))], .agg [.sl (.pair (.int .i64) (.int .i64)), .sl (.pair (.int .i64) (.int .i64)), .sl (.pair (.int .i64) (.pair (.int .i64) (.pair (.int .i64) (.pair (.int .i64) (.int .i64))))), .sl (.pair (.int .i64) (.pair (.int .i64) (.int .i64))), .sl .str, .sl (.int .i64), .nsl (.pair (.f (.int .i64)) (.pair (.pair (.f (.int .i64)) (.sl (.int .i64))) (.pair (.f (.int .i64)) (.pair (.f (.int .i64)) (.f (.int .i64)))))), .nsl (.sl (.pair (.int .i64) (.int .i64))), .sl (.int .i64), .int .i64, .bool, .sl (.pair (.int .i64) (.pair (.int .i64) (.pair (.int .i64) (.pair (.int .i64) (.int .i64)))))], .c (.int .i64)] x) : g_laws_FnExactApart x = some true := by
  obtain ⟨⟨a0, a1, a2, a3, a4, a5, a6, a7, a8, a9, a10, a11⟩, ⟨b0, b1, b2, b3, b4, b5, b6, b7, b8, b9, b10, b11⟩, p⟩ := x
  obtain ⟨ha, hra⟩ := kmx a0 a1 a2 a3 a4 a5 a6 a7 a8 a9 a10 a11 hx.1
  obtain ⟨hb, hrb⟩ := kmx b0 b1 b2 b3 b4 b5 b6 b7 b8 b9 b10 b11 hx.2.1
  clear hx
  obtain ⟨q, e0, c0⟩ := laws_szKernel_some a0 a1 a2 a3 a4 a5 a6 a7 a8 a9 a10 a11 ha 1048576 (by omega)
  unfold g_laws_FnExactApart laws_FnExactApart_
  simp only []
  rw [e0, Option.bind_some]
  rcases c0 with c0 | ⟨c1, c2, sa⟩
  · rw [if_pos c0]
  rw [if_neg (by omega)]
  obtain ⟨q', e1, c3⟩ := laws_szKernel_some b0 b1 b2 b3 b4 b5 b6 b7 b8 b9 b10 b11 hb q (by omega)
  rw [e1, Option.bind_some]
  rcases c3 with c3 | ⟨_, _, sb⟩
  · rw [if_pos c3]
  rw [if_neg (by omega)]
  rw [laws_toKernel_eq a0 a1 a2 a3 a4 a5 a6 a7 a8 a9 a10 a11 sa, Option.bind_some, laws_toKernel_eq b0 b1 b2 b3 b4 b5 b6 b7 b8 b9 b10 b11 sb, Option.bind_some, spec_Apart_eq a0 a1 a2 a3 a4 a5 a6 a7 a8 a9 a10 a11 sa hra b0 b1 b2 b3 b4 b5 b6 b7 b8 b9 b10 b11 sb hrb p, Option.bind_some, Option.bind_some, Option.bind_some, impl_Apart_eq a0 a1 a2 a3 a4 a5 a6 a7 a8 a9 a10 a11 sa hra b0 b1 b2 b3 b4 b5 b6 b7 b8 b9 b10 b11 sb hrb p, Option.bind_some]
  simp only [beq_self_eq_true, if_true, laws_eqKernel_refl a0 a1 a2 a3 a4 a5 a6 a7 a8 a9 a10 a11 sa, laws_eqKernel_refl b0 b1 b2 b3 b4 b5 b6 b7 b8 b9 b10 b11 sb, Option.bind_some]
end Go.Sx.T
