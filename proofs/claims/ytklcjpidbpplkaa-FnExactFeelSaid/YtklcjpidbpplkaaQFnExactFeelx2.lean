import Derived.Test.YtklcjpidbpplkaaQFnExactFeelx0
import Derived.Test.YtklcjpidbpplkaaQFnExactFeelx1
set_option linter.unusedVariables false
set_option linter.unusedSimpArgs false
namespace Go.Proofs.Ytklcjpidbpplkaa.PFnExactFeel
open Go.RowKit Go.Proofs.YtklcjpidbpplkaaW.PrintWords Go.Proofs.YtklcjpidbpplkaaW.PrintLast Go.Proofs.YtklcjpidbpplkaaW.PrintMore Go.Proofs.Ytklcjpidbpplkaa.KW
attribute [local go_sem] max2_int min2_int max_two min_two max_three min_three max_four min_four
def spec_l16Sum.l0 : Nat → List Int → Int → Int → Option (Int)
  | 0, _, _, _ => none
  | k + 1, x0, x3, x4 => if x4 < (x0.length : Int) then (if 0 ≤ x4 then (spec_l16Sum.l0 k x0 (wrap64 (x3 + (rd x0 x4))) (wrap64 (x4 + 1))) else (none)) else (some x3)
def spec_l16Sum.f (k : Nat) (l0 : List Int) : Option (Int) := spec_l16Sum.l0 k l0 0 0
theorem spec_l16Sum.mono_l : ∀ k, (∀ y0 y1 y2, LeO (spec_l16Sum.l0 k y0 y1 y2) (spec_l16Sum.l0 (k + 1) y0 y1 y2))
  | 0 => fun _ _ _ r h => by simp [spec_l16Sum.l0] at h
  | k + 1 => by
    have ih0 := spec_l16Sum.mono_l k
    · intro y0 y1 y2
      unfold spec_l16Sum.l0
      repeat' first
      | (with_reducible exact ih0 _ _ _)
      | (with_reducible exact LeO.refl _)
      | (with_reducible exact LeO.none _)
      | (with_reducible refine LeO.ite ?_ ?_)
      | (with_reducible refine LeO.bind ?_ (fun _ => ?_))
      | exact ih0 _ _ _
      | exact LeO.none _
      | refine LeO.ite ?_ ?_
      | refine LeO.bind ?_ (fun _ => ?_)
theorem spec_l16Sum.mono : ∀ a0 k, LeO (spec_l16Sum.f k a0) (spec_l16Sum.f (k + 1) a0) := by
  intro a0 k
  have ih0 := spec_l16Sum.mono_l k
  unfold spec_l16Sum.f
  repeat' first
      | (with_reducible exact ih0 _ _ _)
      | (with_reducible exact LeO.refl _)
      | (with_reducible exact LeO.none _)
      | (with_reducible refine LeO.ite ?_ ?_)
      | (with_reducible refine LeO.bind ?_ (fun _ => ?_))
      | exact ih0 _ _ _
      | exact LeO.none _
      | refine LeO.ite ?_ ?_
      | refine LeO.bind ?_ (fun _ => ?_)
set_option maxHeartbeats 8000000 in
set_option maxRecDepth 100000 in
theorem spec_l16Sum.calls (k : Nat) (A0 : Option Addr) (c0 : Nat) (l0 : List Int) (r : Int) (w : World) (hr0 : Kd.C (Kd.int .i64) w A0 l0.length l0) (hc0 : l0.length ≤ c0) (h : spec_l16Sum.f k l0 = some r) :
    Calls Try.prog 91 #[.slice A0 l0.length c0] w fun e w' => e = .returned (.int .i64 r) ∧ Drawn0 w w' := by
  have HR0 := Aside0.mk hr0; have HC0 := Aside0.mk hc0; clear hr0 hc0; have H : (spec_l16Sum.l0 k l0 0 0) = some r := h; clear h; have H' := Aside0.mk H; clear H
  go_enter Try.func91, Try.ntmps91
  go_wp2
  go_loopg [3, 4] k (fun kq v3 v4 w' => ∃ (x3_1 : Int) (x4_1 : Int), v3 = .int .i64 x3_1 ∧ v4 = .int .i64 x4_1 ∧ Aside0 (spec_l16Sum.l0 kq l0 x3_1 x4_1 = some r) ∧ Aside0 (kq ≤ k) ∧ Drawn0 w w')
  case atStart => exact ⟨(0), (0), vs, vs, H', ⟨Nat.le_refl _⟩, dw⟩
  case round =>
    clear H'; obtain ⟨x3_1, x4_1, rfl, rfl, HA, HK1, ⟨m1, rfl⟩⟩ := hrel
    cases gk with
    | zero => exact absurd HA.out (by simp [spec_l16Sum.l0])
    | succ k1 =>
      have H := HA.out; clear HA; (simp only [spec_l16Sum.l0] at H)
      by_cases c2 : x4_1 < (l0.length : Int)
      · (rw [if_pos c2] at H); have c2b0 : decide (x4_1 < (l0.length : Int)) = true := decide_eq_true c2; clear c2
        by_cases c3 : 0 ≤ x4_1
        · (rw [if_pos c3] at H); have c3b0 : decide (0 ≤ x4_1) = true := decide_eq_true c3; clear c3; have H' := Aside0.mk H; clear H; have p127 : 0 ≤ (x4_1 : Int) := of_decide_eq_true va; have q127 : x4_1 < (l0.length : Int) := of_decide_eq_true va; obtain ⟨ad127, e127, hx127_0⟩ := Kd.at_int HR0.out x4_1 p127 q127
          cases e127
          replace p127 := eq_true p127; replace q127 := eq_true q127
          go_wp2
          go_roundg k1
          case measure => have := HK1.out; omega
          case rel => exact ⟨(wrap64 (x3_1 + (rd l0 x4_1))), (wrap64 (x4_1 + 1)), vs, vs, H', ⟨hj⟩, dw⟩
        · (rw [if_neg c3] at H); exact absurd H (by simp)
      · (rw [if_neg c2] at H); have c2b0 : decide (x4_1 < (l0.length : Int)) = false := decide_eq_false c2; clear c2; obtain rfl := Option.some.inj H
        go_wp2
        go_ret
        exact ⟨vs, dw⟩

mutual
def spec_GuardOk.j0 : Nat → Bool → List Int → Int → Option (Bool)
  | 0, _, _, _ => none
  | k + 1, x13, x129000, x129001 => if x13 = true then (some false) else (spec_GuardOk.l0 k 0 x129000 x129001)
def spec_GuardOk.l0 : Nat → Int → List Int → Int → Option (Bool)
  | 0, _, _, _ => none
  | k + 1, x3, x129000, x129001 => if x3 < (x129000.length : Int) then (if 0 ≤ x3 then ((spec_l01In.f (rd x129000 x3) 0 30).bind fun t131 => (if t131 = true then (spec_GuardOk.l0 k (wrap64 (x3 + 1)) x129000 x129001) else (some false))) else (none)) else ((spec_l16Sum.f k x129000).bind fun t132 => (some (decide (t132 ≤ 30))))
end
def spec_GuardOk.f (k : Nat) (l0_0 : List Int) (a0_1 : Int) : Option (Bool) := if (l0_0.length : Int) > 9 then (spec_GuardOk.j0 k true l0_0 a0_1) else ((spec_SenseOk.f a0_1).bind fun t129 => (spec_GuardOk.j0 k (!t129) l0_0 a0_1))
theorem spec_GuardOk.mono_l : ∀ k, (∀ y0 y1 y2, LeO (spec_GuardOk.j0 k y0 y1 y2) (spec_GuardOk.j0 (k + 1) y0 y1 y2)) ∧ (∀ y0 y1 y2, LeO (spec_GuardOk.l0 k y0 y1 y2) (spec_GuardOk.l0 (k + 1) y0 y1 y2))
  | 0 => ⟨fun _ _ _ r h => by simp [spec_GuardOk.j0] at h, fun _ _ _ r h => by simp [spec_GuardOk.l0] at h⟩
  | k + 1 => by
    obtain ⟨ih0, ih1⟩ := spec_GuardOk.mono_l k
    refine ⟨?_, ?_⟩
    · intro y0 y1 y2
      unfold spec_GuardOk.j0
      repeat' first
      | (with_reducible exact ih0 _ _ _)
      | (with_reducible exact ih1 _ _ _)
      | (with_reducible exact spec_l16Sum.mono _ _)
      | (with_reducible exact LeO.refl _)
      | (with_reducible exact LeO.none _)
      | (with_reducible refine LeO.ite ?_ ?_)
      | (with_reducible refine LeO.bind ?_ (fun _ => ?_))
      | exact ih0 _ _ _
      | exact ih1 _ _ _
      | exact spec_l16Sum.mono _ _
      | exact LeO.none _
      | refine LeO.ite ?_ ?_
      | refine LeO.bind ?_ (fun _ => ?_)
    · intro y0 y1 y2
      unfold spec_GuardOk.l0
      repeat' first
      | (with_reducible exact ih0 _ _ _)
      | (with_reducible exact ih1 _ _ _)
      | (with_reducible exact spec_l16Sum.mono _ _)
      | (with_reducible exact LeO.refl _)
      | (with_reducible exact LeO.none _)
      | (with_reducible refine LeO.ite ?_ ?_)
      | (with_reducible refine LeO.bind ?_ (fun _ => ?_))
      | exact ih0 _ _ _
      | exact ih1 _ _ _
      | exact spec_l16Sum.mono _ _
      | exact LeO.none _
      | refine LeO.ite ?_ ?_
      | refine LeO.bind ?_ (fun _ => ?_)
theorem spec_GuardOk.mono : ∀ a0 a1 k, LeO (spec_GuardOk.f k a0 a1) (spec_GuardOk.f (k + 1) a0 a1) := by
  intro a0 a1 k
  obtain ⟨ih0, ih1⟩ := spec_GuardOk.mono_l k
  unfold spec_GuardOk.f
  repeat' first
      | (with_reducible exact ih0 _ _ _)
      | (with_reducible exact ih1 _ _ _)
      | (with_reducible exact spec_l16Sum.mono _ _)
      | (with_reducible exact LeO.refl _)
      | (with_reducible exact LeO.none _)
      | (with_reducible refine LeO.ite ?_ ?_)
      | (with_reducible refine LeO.bind ?_ (fun _ => ?_))
      | exact ih0 _ _ _
      | exact ih1 _ _ _
      | exact spec_l16Sum.mono _ _
      | exact LeO.none _
      | refine LeO.ite ?_ ?_
      | refine LeO.bind ?_ (fun _ => ?_)
set_option maxHeartbeats 8000000 in
set_option maxRecDepth 100000 in
theorem spec_GuardOk.calls (k : Nat) (A0_0 : Option Addr) (c0_0 : Nat) (l0_0 : List Int) (a0_1 : Int) (r : Bool) (w : World) (hr0_0 : Kd.C (Kd.int .i64) w A0_0 l0_0.length l0_0) (hc0_0 : l0_0.length ≤ c0_0) (h : spec_GuardOk.f k l0_0 a0_1 = some r) :
    Calls Try.prog 55 #[.agg #[.slice A0_0 l0_0.length c0_0, .int .i64 a0_1]] w fun e w' => e = .returned (.bool r) ∧ Below w.heap.size w w' := by
  have hu30 := Try.underlying30; have HR0_0 := Aside0.mk hr0_0; have HC0_0 := Aside0.mk hc0_0; clear hr0_0 hc0_0; have HB := Aside0.mk (Below.refl w.heap.size w); have H : (if (l0_0.length : Int) > 9 then (spec_GuardOk.j0 k true l0_0 a0_1) else ((spec_SenseOk.f a0_1).bind fun t129 => (spec_GuardOk.j0 k (!t129) l0_0 a0_1))) = some r := h; clear h; have HC2 := Aside0.mk H; clear H
  go_enter Try.func55, Try.ntmps55
  go_upto_region 1 with (first | ((with_reducible refine gate_dst (N := 1) rfl ?_); refine box_event ?hg (N := 1) ?hd (cs := #[.slice A0_0 l0_0.length c0_0, .int .i64 a0_1]) (t := 30) ?hr ?_; (case hd => rfl); (case hg => rfl); (case hr => first | (go_simp; done) | (go_simp; rfl)); intro gb128 hg w3 hbox hb; have n0_ := Aside0.mk (below_step bw hb); have n1_ := Aside0.mk (hbox); have n2_ := Aside0.mk ((lw : w.heap.size ≤ gb128)); have n3_ := Aside0.mk ((lw : w.heap.size ≤ gb128)); replace HB := n0_; have BK128 := n1_; have GW128 := n2_; have GE128 := n3_; clear n0_ n1_ n2_ n3_; clear hb hbox hg))
  (try simp only [Act.put, List.setIfInBounds_toArray, List.set_cons_zero, List.set_cons_succ])
  go_cut [13] (fun v13 wc => ∃ (kq : Nat) (x13_1 : Bool), v13 = .bool x13_1 ∧ Aside0 (spec_GuardOk.j0 kq x13_1 l0_0 a0_1 = some r) ∧ Aside0 (kq ≤ k) ∧ Aside0 (wc.heap[gb128]? = some (.cells #[(.slice A0_0 l0_0.length c0_0), .int .i64 a0_1] 30 (0, 0))) ∧ Aside0 (Below w.heap.size w wc))
  case first =>
    have H := HC2.out; clear HC2
    by_cases c4 : (l0_0.length : Int) > 9
    · (rw [if_pos c4] at H); have c4b0 : decide (9 < (l0_0.length : Int)) = true := decide_eq_true c4; have c4b1 : decide (9 < l0_0.length) = true := decide_eq_true (by omega); clear c4; (first | rw [c4b0] | (simp only [i64_w, i32_w]; rw [c4b0]) | skip); have H' := Aside0.mk H; clear H; obtain ⟨hcz5_0, hcz5_1⟩ := bc2 BK128; obtain ⟨hfz5_0, hfz5_1⟩ := bf2 BK128
      go_wp2
      go_meet
      case rel => exact ⟨_, (true), vs, H', ⟨ow⟩, ⟨kw⟩, ⟨bw⟩⟩
    · (rw [if_neg c4] at H); have c4b0 : decide (9 < (l0_0.length : Int)) = false := decide_eq_false c4; have c4b1 : decide (9 < l0_0.length) = false := decide_eq_false (by omega); clear c4; (first | rw [c4b0] | (simp only [i64_w, i32_w]; rw [c4b0]) | skip); replace H := Option.bind_eq_some_iff.mp H; obtain ⟨t129, A60, H⟩ := H; (try dsimp only at H); have A6 := Aside0.mk A60; clear A60; have H' := Aside0.mk H; clear H; obtain ⟨hcz7_0, hcz7_1⟩ := bc2 BK128; obtain ⟨hfz7_0, hfz7_1⟩ := bf2 BK128
      go_wp2_with (first | (go_at_call 70; (with_reducible refine (spec_SenseOk.calls _ _ _ A6.out).mono ?_); rintro e w' ⟨rfl, ⟨nd, rfl⟩⟩))
      go_meet
      case rel => exact ⟨_, (!t129), vs, H', ⟨ow⟩, ⟨kw⟩, ⟨bw⟩⟩
  case rest =>
    clear HC2; (try clear c4); (try clear c4b0); (try clear c4b1); (try clear hcz5_0); (try clear hcz5_1); (try clear hcz7_0); (try clear hcz7_1); (try clear hfz5_0); (try clear hfz5_1); (try clear hfz7_0); (try clear hfz7_1); obtain ⟨kq, x13_1, rfl, HA, HJ1, BK128, HB⟩ := hcut
    cases kq with
    | zero => exact absurd HA.out (by simp [spec_GuardOk.j0])
    | succ kj1 =>
      have H := HA.out; clear HA; (simp only [spec_GuardOk.j0] at H)
      by_cases c8 : x13_1 = true
      · subst c8; (have H1 : (some false) = some r := by rw [if_pos rfl] at H; exact H); clear H; have H := H1; clear H1; obtain rfl := Option.some.inj H
        go_wp2
        go_ret
        exact ⟨by first | rfl | (simp [errW_none, errW_some] <;> rfl) | (simp [*, errW_none, errW_some] <;> rfl), bw⟩
      · replace c8 := Bool.eq_false_iff.mpr c8; subst c8; (have H1 : (spec_GuardOk.l0 kj1 0 l0_0 a0_1) = some r := by rw [if_neg (show ¬ (false = true) by decide)] at H; exact H); clear H; have H := H1; clear H1; have H' := Aside0.mk H; clear H
        go_wp2
        go_loopg [3] kj1 (fun kq v3 w' => ∃ (x3_2 : Int), v3 = .int .i64 x3_2 ∧ Aside0 (spec_GuardOk.l0 kq x3_2 l0_0 a0_1 = some r) ∧ Aside0 (kq ≤ kj1) ∧ Aside0 (w'.heap[gb128]? = some (.cells #[(.slice A0_0 l0_0.length c0_0), .int .i64 a0_1] 30 (0, 0))) ∧ Aside0 (Below w.heap.size w w'))
        case atStart => exact ⟨(0), vs, H', ⟨Nat.le_refl _⟩, ⟨kw⟩, ⟨bw⟩⟩
        case round =>
          clear H'; (try clear c4); (try clear c4b0); (try clear c4b1); (try clear c8); (try clear hcz5_0); (try clear hcz5_1); (try clear hcz7_0); (try clear hcz7_1); (try clear hfz5_0); (try clear hfz5_1); (try clear hfz7_0); (try clear hfz7_1); obtain ⟨x3_2, rfl, HA, HK2, BK128, HB⟩ := hrel
          cases gk with
          | zero => exact absurd HA.out (by simp [spec_GuardOk.l0])
          | succ k2 =>
            have H := HA.out; clear HA; (simp only [spec_GuardOk.l0] at H)
            by_cases c9 : x3_2 < (l0_0.length : Int)
            · (rw [if_pos c9] at H); have c9b0 : decide (x3_2 < (l0_0.length : Int)) = true := decide_eq_true c9; clear c9
              by_cases c10 : 0 ≤ x3_2
              · (rw [if_pos c10] at H); have c10b0 : decide (0 ≤ x3_2) = true := decide_eq_true c10; clear c10; replace H := Option.bind_eq_some_iff.mp H; obtain ⟨t131, A110, H⟩ := H; (try dsimp only at H); have A11 := Aside0.mk A110; clear A110
                by_cases c12 : t131 = true
                · subst c12; (have H1 : (spec_GuardOk.l0 k2 (wrap64 (x3_2 + 1)) l0_0 a0_1) = some r := by rw [if_pos rfl] at H; exact H); clear H; have H := H1; clear H1; have H' := Aside0.mk H; clear H; obtain ⟨hcz13_0, hcz13_1⟩ := bc2 BK128; obtain ⟨hfz13_0, hfz13_1⟩ := bf2 BK128; have p130 : 0 ≤ (x3_2 : Int) := of_decide_eq_true va; have q130 : x3_2 < (l0_0.length : Int) := of_decide_eq_true va; obtain ⟨ad130, e130, hx130_0⟩ := Kd.at_int HR0_0.out x3_2 p130 q130
                  cases e130
                  replace hx130_0 := (HB.out.cell (World.block_lt_of_cell? w _ hx130_0)).trans hx130_0; replace p130 := eq_true p130; replace q130 := eq_true q130
                  go_wp2_with (first | ((with_reducible refine gate_callee (f := 80) rfl ?_); refine goesL_ (some 26) rfl rfl Try.func80 (by kernel_rfl) rfl #[.int .i64 (rd l0_0 x3_2), .int .i64 0, .int .i64 30] rfl sw ?_; (with_reducible refine (spec_l01In.calls _ _ _ _ _ A11.out).mono ?_); rintro e w' ⟨rfl, ⟨nd, rfl⟩⟩; refine ⟨_, rfl, ?_⟩))
                  go_roundg k2
                  case measure => have := HJ1.out; have := HK2.out; omega
                  case rel => exact ⟨(wrap64 (x3_2 + 1)), vs, H', ⟨by have := HJ1.out; have := HK2.out; omega⟩, ⟨kw⟩, ⟨bw⟩⟩
                · replace c12 := Bool.eq_false_iff.mpr c12; subst c12; (have H1 : (some false) = some r := by rw [if_neg (show ¬ (false = true) by decide)] at H; exact H); clear H; have H := H1; clear H1; obtain rfl := Option.some.inj H; obtain ⟨hcz14_0, hcz14_1⟩ := bc2 BK128; obtain ⟨hfz14_0, hfz14_1⟩ := bf2 BK128; have p130 : 0 ≤ (x3_2 : Int) := of_decide_eq_true va; have q130 : x3_2 < (l0_0.length : Int) := of_decide_eq_true va; obtain ⟨ad130, e130, hx130_0⟩ := Kd.at_int HR0_0.out x3_2 p130 q130
                  cases e130
                  replace hx130_0 := (HB.out.cell (World.block_lt_of_cell? w _ hx130_0)).trans hx130_0; replace p130 := eq_true p130; replace q130 := eq_true q130
                  go_wp2_with (first | ((with_reducible refine gate_callee (f := 80) rfl ?_); refine goesL_ (some 26) rfl rfl Try.func80 (by kernel_rfl) rfl #[.int .i64 (rd l0_0 x3_2), .int .i64 0, .int .i64 30] rfl sw ?_; (with_reducible refine (spec_l01In.calls _ _ _ _ _ A11.out).mono ?_); rintro e w' ⟨rfl, ⟨nd, rfl⟩⟩; refine ⟨_, rfl, ?_⟩))
                  go_ret
                  exact ⟨by first | rfl | (simp [errW_none, errW_some] <;> rfl) | (simp [*, errW_none, errW_some] <;> rfl), bw⟩
              · (rw [if_neg c10] at H); exact absurd H (by simp)
            · (rw [if_neg c9] at H); have c9b0 : decide (x3_2 < (l0_0.length : Int)) = false := decide_eq_false c9; clear c9; replace H := Option.bind_eq_some_iff.mp H; obtain ⟨t132, A150, H⟩ := H; replace H : (some (decide (t132 ≤ 30))) = some r := H; have A15 := Aside0.mk A150; clear A150; obtain rfl := Option.some.inj H; obtain ⟨hcz16_0, hcz16_1⟩ := bc2 BK128; obtain ⟨hfz16_0, hfz16_1⟩ := bf2 BK128
              go_wp2_with (first | ((with_reducible refine gate_callee (f := 91) rfl ?_); refine goesL_ (some 30) rfl rfl Try.func91 (by kernel_rfl) rfl #[.slice A0_0 l0_0.length c0_0] rfl sw ?_; (with_reducible refine (spec_l16Sum.calls _ _ _ _ _ _ ?side1 ?side2 A15.out).mono ?_); (case side1 => repeat (first | exact (Kd.C_below HR0_0.out HB.out) | (with_reducible refine Kd.C_alloc ?_ _) | (with_reducible refine Kd.C_drewN ?_ _) | (with_reducible refine Kd.C_drew ?_))); (case side2 => exact HC0_0.out); rintro e w' ⟨rfl, ⟨nd, rfl⟩⟩; refine ⟨_, rfl, ?_⟩))
              go_ret
              exact ⟨by first | rfl | (simp [errW_none, errW_some] <;> rfl) | (simp [*, errW_none, errW_some] <;> rfl), bw⟩

def spec_l16Copy.f (l0_0 : List Int) (a0_1 : Int) : Option (List Int × Int) := (some (([] : List Int) : List Int)).bind fun y135 => (if y135.length + l0_0.length < 17592186044416 then (some ((y135 ++ l0_0), a0_1)) else (none))
def spec_l16Copy.T1 : Bool × List (List Nat × List Nat) := (true, [([], []), ([], []), ([1], [1]), ([0, 2], [0, 2]), ([], []), ([4], [4]), ([3, 5], [3, 5]), ([6, 3, 0, 1, 2, 3, 4, 5, 6], [6])])
def spec_l16Copy.B1 : List Nat := [0, 0, 2, 7, 0, 16, 63, 127]
theorem spec_l16Copy.tab1 : rtab .any (opsOf Try.f66 1) = spec_l16Copy.T1 := by kernel_rfl
theorem spec_l16Copy.bits1 : waitsOk spec_l16Copy.T1.2 spec_l16Copy.B1 = true := by kernel_rfl
theorem cz4 {P : Prop} (h : P := by
  simp only [Act.put, List.setIfInBounds_toArray, List.set_cons_zero, List.set_cons_succ, i64_w, i32_w]
  rfl) : P := h
set_option maxHeartbeats 8000000 in
set_option maxRecDepth 100000 in
theorem spec_l16Copy.calls (A0_0 : Option Addr) (c0_0 : Nat) (l0_0 : List Int) (a0_1 : Int) (r1 : List Int) (r2 : Int) (w : World) (hr0_0 : Kd.C (Kd.int .i64) w A0_0 l0_0.length l0_0) (hc0_0 : l0_0.length ≤ c0_0) (h : spec_l16Copy.f l0_0 a0_1 = some (r1, r2)) :
    Calls Try.prog 66 #[.agg #[.slice A0_0 l0_0.length c0_0, .int .i64 a0_1]] w fun e w' => ∃ v0_ : Value, e = .returned (.agg #[v0_, .int .i64 r2]) ∧ Kd.R (Kd.int .i64) 3 w' w.heap.size (fun _ => True) v0_ r1 ∧ Below w.heap.size w w' := by
  have hu30 := Try.underlying30; have HR0_0 := Aside0.mk hr0_0; have HC0_0 := Aside0.mk hc0_0; clear hr0_0 hc0_0; have HB := Aside0.mk (Below.refl w.heap.size w); have H : ((some (([] : List Int) : List Int)).bind fun y135 => (if y135.length + l0_0.length < 17592186044416 then (some ((y135 ++ l0_0), a0_1)) else (none))) = some (r1, r2) := h; clear h; obtain ⟨y135, hy135⟩ : ∃ y_ : List Int, y_ = (([] : List Int)) := ⟨_, rfl⟩; (replace H : (if y135.length + l0_0.length < 17592186044416 then (some ((y135 ++ l0_0), a0_1)) else (none)) = some (r1, r2) := by first | (rw [hy135]; with_reducible exact H) | (have H2_ := (Option.bind_some _ _).symm.trans H; rw [hy135]; with_reducible exact H2_) | (have H2_ := (Option.bind_some _ _).symm.trans H; with_reducible exact H2_) | with_reducible exact H | (rw [hy135]; exact H) | exact H); have Ny135 := Aside0.mk hy135; clear hy135
  by_cases c2 : y135.length + l0_0.length < 17592186044416
  · (rw [if_pos c2] at H); have LMc2 := Aside0.mk c2; clear c2; obtain ⟨y138, hy138⟩ : ∃ y_ : List Int, y_ = (y135 ++ l0_0) := ⟨_, rfl⟩; (replace H : (some (y138, a0_1)) = some (r1, r2) := by first | (rw [hy138]; with_reducible exact H) | (have H2_ := (Option.bind_some _ _).symm.trans H; rw [hy138]; with_reducible exact H2_) | (have H2_ := (Option.bind_some _ _).symm.trans H; with_reducible exact H2_) | with_reducible exact H | (rw [hy138]; exact H) | exact H); have Ny138 := Aside0.mk hy138; clear hy138; (simp only [Option.some.injEq, Prod.mk.injEq] at H); obtain ⟨rfl, rfl⟩ := H
    go_enter Try.func66, Try.ntmps66
    (try go_wp2_with (first | ((with_reducible refine gate_dst (N := 1) rfl ?_); refine box_event ?hg (N := 1) ?hd (cs := #[.slice A0_0 l0_0.length c0_0, .int .i64 a0_1]) (t := 30) ?hr ?_; (case hd => rfl); (case hg => rfl); (case hr => first | (go_simp; done) | (go_simp; rfl)); intro gb133 hg w3 hbox hb; have n0_ := Aside0.mk (below_step bw hb); have n1_ := Aside0.mk (hbox); have n2_ := Aside0.mk ((lw : w.heap.size ≤ gb133)); have n3_ := Aside0.mk ((lw : w.heap.size ≤ gb133)); replace HB := n0_; have BK133 := n1_; have GW133 := n2_; have GE133 := n3_; clear n0_ n1_ n2_ n3_; clear hb hbox hg) | ((with_reducible refine gate_dst (N := 2) rfl ?_); refine box_event ?hg (N := 2) ?hd (cs := #[.slice none 0 0, .int .i64 0]) (t := 30) ?hr ?_; (case hd => rfl); (case hg => rfl); (case hr => first | (go_simp; done) | (go_simp; rfl)); intro gb134 hg w4 hbox hb; have n0_ := Aside0.mk (blk_below (g := gb133) (o := .cells #[.slice A0_0 l0_0.length c0_0, .int .i64 a0_1] 30 (0, 0)) kw hb); have n1_ := Aside0.mk (below_step bw hb); have n2_ := Aside0.mk (hbox); have n3_ := Aside0.mk ((lw : w.heap.size ≤ gb134)); have n4_ := Aside0.mk ((lw : w.heap.size ≤ gb134)); have n5_ := Aside0.mk ((nl : gb133 ≠ gb134)); have n6_ := Aside0.mk ((ng : gb134 ≠ gb133)); replace BK133 := n0_; replace HB := n1_; have BK134 := n2_; have GW134 := n3_; have GE134 := n4_; have NB133_134 := n5_; have NB134_133 := n6_; clear n0_ n1_ n2_ n3_ n4_ n5_ n6_; clear hb hbox hg))); have n0_ := Aside0.mk (blk_drew BK133.out); have n1_ := Aside0.mk (blk_drew BK134.out); have n2_ := Aside0.mk (below_drew1 HB.out); replace BK133 := n0_; replace BK134 := n1_; replace HB := n2_; clear n0_ n1_ n2_; (refine start_ (n := 8) (S := fun w' => w'.cell? ⟨gb133, 0, none⟩ = some (.slice A0_0 l0_0.length c0_0) ∧ w'.cell? ⟨gb133, 1, none⟩ = some (.int .i64 a0_1)) (ds := []) #[false, false, false, false, false, false, false, false] (by kernel_rfl) rfl rfl ⟨(blk_cell BK133.out 0).trans rfl, (blk_cell BK133.out 1).trans rfl⟩ (fun hHeld => ?_); refine with_tabW spec_l16Copy.tab1 spec_l16Copy.bits1 (fun HT_ HW_ => ?_)); (generalize w4.drew = w5 at BK133 BK134 HB hHeld ⊢); refine pure_ (i := 1) (N := some 4) (v := ?_) (a' := ?_) #[false, true, false, false, false, false, false, false] rfl rfl (any_of HT_.out (by kernel_rfl)) (fun _ _ _ h => h) (Or.inl ⟨by rfl, ?_⟩) ?_ ?_; rotate_left
    · intro w'
      go_simp
      with_reducible rfl
    rotate_left
    · exact cz4
    refine pure_ (i := 4) (N := some 7) (v := ?_) (a' := ?_) #[false, true, false, false, true, false, false, false] rfl rfl (any_of HT_.out (by kernel_rfl)) (fun _ _ _ h => h) (Or.inl ⟨by rfl, ?_⟩) ?_ ?_; rotate_left
    · intro w'
      go_simp
      with_reducible rfl
    rotate_left
    · exact cz4
    refine take_ (i := 2) (N := some 5) (v := ?_) (a' := ?_) #[false, true, true, false, true, false, false, false] rfl rfl (take_ofW HT_.out HW_.out (by kernel_rfl)) (fun _ _ _ h => h) (Or.inl ⟨by rfl, ?_⟩) hHeld ?_ ?_; rotate_left
    · rintro w' ⟨s0, s1⟩
      go_simp
      with_reducible rfl
    rotate_left
    · exact cz4
    refine take_ (i := 5) (N := some 8) (v := ?_) (a' := ?_) #[false, true, true, false, true, true, false, false] rfl rfl (take_ofW HT_.out HW_.out (by kernel_rfl)) (fun _ _ _ h => h) (Or.inl ⟨by rfl, ?_⟩) hHeld ?_ ?_; rotate_left
    · rintro w' ⟨s0, s1⟩
      go_simp
      with_reducible rfl
    rotate_left
    · exact cz4
    refine one_ (i := 0) (N := some 3) #[true, true, true, false, true, true, false, false] rfl rfl (one_of HT_.out (by kernel_rfl)) (by decide) (fun K hK => ?_); (refine Kd.R_lit_step (Kd.int .i64) _ 3 ?hg (N := 3) ?hd (xs := ([] : List Int)) (inner := []) (ok := fun _ => True) (okp := fun _ => True) ?hr ?hp (fun _ hk => hk) trivial (Below.refl _ _) (Nat.le_refl _) (by simp) ?_; (case hd => rfl); (case hg => rfl); (case hr => first | (go_simp; done) | (go_simp; rfl)); (case hp => exact (Reps.none _ _))); intro v136 w6 ho7 hb hg_ hnew_; clear hg_ hnew_; (first | rw [← Ny135.out] at ho7 | (simp only [Int.reduceToNat] at ho7; rw [← Ny135.out] at ho7)); have n0_ := Aside0.mk (Kd.R_lower ho7 (below_size bw)); have n1_ := Aside0.mk (blk_below (g := gb133) (o := .cells #[.slice A0_0 l0_0.length c0_0, .int .i64 a0_1] 30 (0, 0)) kw hb); have n2_ := Aside0.mk (blk_below (g := gb134) (o := .cells #[.slice none 0 0, .int .i64 0] 30 (0, 0)) kw hb); have n3_ := Aside0.mk (below_step bw hb); have HO137 := n0_; replace BK133 := n1_; replace BK134 := n2_; replace HB := n3_; clear n0_ n1_ n2_ n3_; clear hb ho7; refine hK.out _ _ ⟨(blk_cell BK133.out 0).trans rfl, (blk_cell BK133.out 1).trans rfl⟩ (fun hHeld => ?_); clear hK K; refine norm_ (a' := ?_) ?_ ?_; rotate_left
    · (show Act.put _ (some 3) _ = _); simp only [Act.put, List.setIfInBounds_toArray, List.set_cons_zero, List.set_cons_succ, i64_w, i32_w]; rfl
    refine one_ (i := 3) (N := some 6) #[true, true, true, true, true, true, false, false] rfl rfl (one_of HT_.out (by kernel_rfl)) (by decide) (fun K hK => ?_); refine Kd.R_append_rows_step (Kd.int .i64) (w0 := w) w.heap.size (by rfl) (.tmp 3) (.tmp 5) 28 3 (.int .i64 0) 8 rfl Try.underlying28 info3 rfl (by decide) (by omega) v136 y135 l0_0 _ _ _ (fun _ => True) (fun _ => False) rfl rfl ?aO ?aR (fun _ _ h => h) (fun _ h => h.elim) ?aF ?aB ?aS ?aL ?_; (case aR => repeat (first | exact (Kd.C_below HR0_0.out HB.out) | (with_reducible refine Kd.C_alloc ?_ _) | (with_reducible refine Kd.C_drewN ?_ _) | (with_reducible refine Kd.C_drew ?_))); (case aB => exact bw); (case aF => exact (fun _ _ => trivial)); (case aO => exact rw_); (case aS => exact (below_size bw)); (case aL => have := LMc2.out; omega); intro v139 w8 ho hb hg hat; (rw [← Ny138.out] at ho); have n0_ := Aside0.mk (blk_grown (g := gb133) (o := .cells #[.slice A0_0 l0_0.length c0_0, .int .i64 a0_1] 30 (0, 0)) kw hg (Kd.R_ne HO137.out BK133.out (by decide))); have n1_ := Aside0.mk (blk_grown (g := gb134) (o := .cells #[.slice none 0 0, .int .i64 0] 30 (0, 0)) kw hg (Kd.R_ne HO137.out BK134.out (by decide))); have n2_ := Aside0.mk (hb); have n3_ := Aside0.mk (ho); clear HO137; replace BK133 := n0_; replace BK134 := n1_; replace HB := n2_; have HO140 := n3_; clear n0_ n1_ n2_ n3_; clear ho hb hg hat; obtain ⟨Ao9, co9, eo9⟩ := Kd.R_slice HO140.out; (first | subst eo9 | (injection eo9 with f1_ f2_ f3_; have f4_ := f1_.symm; have f5_ := f3_.symm; clear f1_ f2_ f3_; subst f4_; subst f5_)); refine hK.out _ _ ⟨(blk_cell BK133.out 0).trans rfl, (blk_cell BK133.out 1).trans rfl⟩ (fun hHeld => ?_); clear hK K; refine norm_ (a' := ?_) ?_ ?_; rotate_left
    · (show Act.put _ (some 6) _ = _); simp only [Act.put, List.setIfInBounds_toArray, List.set_cons_zero, List.set_cons_succ, i64_w, i32_w]; rfl
    refine pure_ (i := 6) (N := some 9) (v := ?_) (a' := ?_) #[true, true, true, true, true, true, true, false] rfl rfl (any_of HT_.out (by kernel_rfl)) (fun _ _ _ h => h) (Or.inl ⟨by rfl, ?_⟩) ?_ ?_; rotate_left
    · intro w'
      go_simp
      with_reducible rfl
    rotate_left
    · exact cz4
    refine one_ (i := 7) (N := none) #[true, true, true, true, true, true, true, true] rfl rfl (one_of HT_.out (by kernel_rfl)) (by decide) (fun K hK => ?_); have hs10 : w8.cell? ⟨gb134, 0, none⟩ = some (.slice none 0 0) := (blk_cell BK134.out 0).trans rfl; have hfs10 := blk_frozen BK134.out 0; have hns10_0 := NB133_134.out; have hms10_0 := NB134_133.out; have hs11 : w8.cell? ⟨gb134, 1, none⟩ = some (.int .i64 0) := (blk_cell BK134.out 1).trans rfl; have hfs11 := blk_frozen BK134.out 1; have hns11_0 := NB133_134.out; have hms11_0 := NB134_133.out; refine skip_ (w1 := ?_) (by rfl) rfl ?_ ?_; rotate_left
    · go_simp
      rfl
    refine hK.out _ _ ⟨((cell_far (p := ⟨gb134, _, none⟩) NB133_134.out _).trans (((cell_far (p := ⟨gb134, _, none⟩) NB133_134.out _).trans (hHeld.1)))), ((cell_far (p := ⟨gb134, _, none⟩) NB133_134.out _).trans (((cell_far (p := ⟨gb134, _, none⟩) NB133_134.out _).trans (hHeld.2))))⟩ (fun hHeld => ?_); clear hK K; refine done_ (done_of HT_.out (by kernel_rfl)) ?_; (try go_wp2); refine bodyPost_ret (results_cell_row rfl _ _ gb134 30 #[.slice Ao9 y138.length co9, .int .i64 a0_1] (0, 0) _ rfl kp Try.underlying30 rfl (by kernel_rfl)) rfl ?_; exact ⟨_, by first | rfl | (simp [errW_none, errW_some] <;> rfl) | (simp [*, errW_none, errW_some] <;> rfl), by (with_reducible repeat (first | apply Kd.R_alloc | apply Kd.R_drewN | apply Kd.R_drew)); exact Kd.R_mono (Kd.R_far (p := ⟨gb134, 1, none⟩) (Kd.R_far (p := ⟨gb134, 0, none⟩) (Kd.R_types HO140.out BK134.out (by decide)) (fun _ hk => hk.2) (.slice Ao9 y138.length co9)) (fun _ hk => hk.2) (.int .i64 a0_1)) (fun _ hk => trivial), bw⟩
  · (rw [if_neg c2] at H); exact absurd H (by simp)

def spec_l13Both.l0 : Nat → Int → Int → Int → Int → Int → Option (Int)
  | 0, _, _, _, _, _ => none
  | k + 1, x0, x1, x5, x6, x7 => if x7 < 4 then (if x6 = 0 then (none) else (if (Int.tmod (wrap64 (Int.tdiv x0 x6)) 2) = 1 then (spec_l13Both.l0 k x0 x1 (wrap64 (x5 + x6)) (wrap64 (2 * x6)) (wrap64 (x7 + 1))) else (if (Int.tmod (wrap64 (Int.tdiv x1 x6)) 2) = 1 then (spec_l13Both.l0 k x0 x1 (wrap64 (x5 + x6)) (wrap64 (2 * x6)) (wrap64 (x7 + 1))) else (spec_l13Both.l0 k x0 x1 x5 (wrap64 (2 * x6)) (wrap64 (x7 + 1)))))) else (some x5)
def spec_l13Both.f (k : Nat) (a0 : Int) (a1 : Int) : Option (Int) := spec_l13Both.l0 k a0 a1 0 1 0
theorem spec_l13Both.mono_l : ∀ k, (∀ y0 y1 y2 y3 y4, LeO (spec_l13Both.l0 k y0 y1 y2 y3 y4) (spec_l13Both.l0 (k + 1) y0 y1 y2 y3 y4))
  | 0 => fun _ _ _ _ _ r h => by simp [spec_l13Both.l0] at h
  | k + 1 => by
    have ih0 := spec_l13Both.mono_l k
    · intro y0 y1 y2 y3 y4
      unfold spec_l13Both.l0
      repeat' first
      | (with_reducible exact ih0 _ _ _ _ _)
      | (with_reducible exact LeO.refl _)
      | (with_reducible exact LeO.none _)
      | (with_reducible refine LeO.ite ?_ ?_)
      | (with_reducible refine LeO.bind ?_ (fun _ => ?_))
      | exact ih0 _ _ _ _ _
      | exact LeO.none _
      | refine LeO.ite ?_ ?_
      | refine LeO.bind ?_ (fun _ => ?_)
theorem spec_l13Both.mono : ∀ a0 a1 k, LeO (spec_l13Both.f k a0 a1) (spec_l13Both.f (k + 1) a0 a1) := by
  intro a0 a1 k
  have ih0 := spec_l13Both.mono_l k
  unfold spec_l13Both.f
  repeat' first
      | (with_reducible exact ih0 _ _ _ _ _)
      | (with_reducible exact LeO.refl _)
      | (with_reducible exact LeO.none _)
      | (with_reducible refine LeO.ite ?_ ?_)
      | (with_reducible refine LeO.bind ?_ (fun _ => ?_))
      | exact ih0 _ _ _ _ _
      | exact LeO.none _
      | refine LeO.ite ?_ ?_
      | refine LeO.bind ?_ (fun _ => ?_)
set_option maxHeartbeats 8000000 in
set_option maxRecDepth 100000 in
theorem spec_l13Both.calls (k : Nat) (a0 : Int) (a1 : Int) (r : Int) (w : World) (h : spec_l13Both.f k a0 a1 = some r) :
    Calls Try.prog 71 #[.int .i64 a0, .int .i64 a1] w fun e w' => e = .returned (.int .i64 r) ∧ Drawn0 w w' := by
  have H : (spec_l13Both.l0 k a0 a1 0 1 0) = some r := h; clear h; have H' := Aside0.mk H; clear H
  go_enter Try.func71, Try.ntmps71
  go_wp2
  go_loopg [5, 6, 7] k (fun kq v5 v6 v7 w' => ∃ (x5_1 : Int) (x6_1 : Int) (x7_1 : Int), v5 = .int .i64 x5_1 ∧ v6 = .int .i64 x6_1 ∧ v7 = .int .i64 x7_1 ∧ Aside0 (spec_l13Both.l0 kq a0 a1 x5_1 x6_1 x7_1 = some r) ∧ Aside0 (kq ≤ k) ∧ Drawn0 w w')
  case atStart => exact ⟨(0), (1), (0), vs, vs, vs, H', ⟨Nat.le_refl _⟩, dw⟩
  case round =>
    clear H'; obtain ⟨x5_1, x6_1, x7_1, rfl, rfl, rfl, HA, HK1, ⟨m1, rfl⟩⟩ := hrel
    cases gk with
    | zero => exact absurd HA.out (by simp [spec_l13Both.l0])
    | succ k1 =>
      have H := HA.out; clear HA; (simp only [spec_l13Both.l0] at H)
      by_cases c3 : x7_1 < 4
      · (rw [if_pos c3] at H); have c3b0 : decide (x7_1 < 4) = true := decide_eq_true c3; clear c3
        by_cases c4 : x6_1 = 0
        · (rw [if_pos c4] at H); exact absurd H (by simp)
        · (rw [if_neg c4] at H); have c4b0 : (x6_1 == 0) = false := beq_eq_false_iff_ne.mpr c4; have c4b1 : (x6_1 != 0) = true := bne_iff_ne.mpr c4
          by_cases c5 : (Int.tmod (wrap64 (Int.tdiv a0 x6_1)) 2) = 1
          · (rw [if_pos c5] at H); have c5b0 : ((Int.tmod (wrap64 (Int.tdiv a0 x6_1)) 2) == 1) = true := beq_iff_eq.mpr c5; have c5b1 : ((Int.tmod (wrap64 (Int.tdiv a0 x6_1)) 2) != 1) = false := bne_eq_false_iff_eq.mpr c5; clear c5; have H' := Aside0.mk H; clear H
            go_wp2
            go_roundg k1
            case measure => have := HK1.out; omega
            case rel => exact ⟨(wrap64 (x5_1 + x6_1)), (wrap64 (2 * x6_1)), (wrap64 (x7_1 + 1)), vs, vs, vs, H', ⟨hj⟩, dw⟩
          · (rw [if_neg c5] at H); have c5b0 : ((Int.tmod (wrap64 (Int.tdiv a0 x6_1)) 2) == 1) = false := beq_eq_false_iff_ne.mpr c5; have c5b1 : ((Int.tmod (wrap64 (Int.tdiv a0 x6_1)) 2) != 1) = true := bne_iff_ne.mpr c5
            by_cases c6 : (Int.tmod (wrap64 (Int.tdiv a1 x6_1)) 2) = 1
            · (rw [if_pos c6] at H); have c6b0 : ((Int.tmod (wrap64 (Int.tdiv a1 x6_1)) 2) == 1) = true := beq_iff_eq.mpr c6; have c6b1 : ((Int.tmod (wrap64 (Int.tdiv a1 x6_1)) 2) != 1) = false := bne_eq_false_iff_eq.mpr c6; clear c6; have H' := Aside0.mk H; clear H
              go_wp2
              go_roundg k1
              case measure => have := HK1.out; omega
              case rel => exact ⟨(wrap64 (x5_1 + x6_1)), (wrap64 (2 * x6_1)), (wrap64 (x7_1 + 1)), vs, vs, vs, H', ⟨hj⟩, dw⟩
            · (rw [if_neg c6] at H); have c6b0 : ((Int.tmod (wrap64 (Int.tdiv a1 x6_1)) 2) == 1) = false := beq_eq_false_iff_ne.mpr c6; have c6b1 : ((Int.tmod (wrap64 (Int.tdiv a1 x6_1)) 2) != 1) = true := bne_iff_ne.mpr c6; have H' := Aside0.mk H; clear H
              go_wp2
              go_roundg k1
              case measure => have := HK1.out; omega
              case rel => exact ⟨(x5_1), (wrap64 (2 * x6_1)), (wrap64 (x7_1 + 1)), vs, vs, vs, H', ⟨hj⟩, dw⟩
      · (rw [if_neg c3] at H); have c3b0 : decide (x7_1 < 4) = false := decide_eq_false c3; clear c3; obtain rfl := Option.some.inj H
        go_wp2
        go_ret
        exact ⟨vs, dw⟩

def spec_Feel.j0 : Nat → Int → Bool → Bool → List Int → Int → List Int → Int → Option (List Int × Int)
  | 0, _, _, _, _, _, _, _ => none
  | k + 1, x1, x2, x17, x142000, x142001, x148000, x148001 => if x17 = true then (some (x148000, x148001)) else ((spec_l13Both.f k x142001 x1).bind fun t150 => (if x2 = true then (some (x148000, x1)) else (some (x148000, t150))))
def spec_Feel.f (k : Nat) (l0_0 : List Int) (a0_1 : Int) (a1 : Int) (a2 : Bool) : Option (List Int × Int) := (spec_l16Copy.f l0_0 a0_1).bind fun bt143 => ((spec_GuardOk.f k l0_0 a0_1).bind fun t148 => (if t148 = true then ((spec_SenseOk.f a1).bind fun t149 => (spec_Feel.j0 k a1 a2 (!t149) l0_0 a0_1 bt143.1 bt143.2)) else (spec_Feel.j0 k a1 a2 true l0_0 a0_1 bt143.1 bt143.2)))
theorem spec_Feel.mono_l : ∀ k, (∀ y0 y1 y2 y3 y4 y5 y6, LeO (spec_Feel.j0 k y0 y1 y2 y3 y4 y5 y6) (spec_Feel.j0 (k + 1) y0 y1 y2 y3 y4 y5 y6))
  | 0 => fun _ _ _ _ _ _ _ r h => by simp [spec_Feel.j0] at h
  | k + 1 => by
    have ih0 := spec_Feel.mono_l k
    · intro y0 y1 y2 y3 y4 y5 y6
      unfold spec_Feel.j0
      repeat' first
      | (with_reducible exact ih0 _ _ _ _ _ _ _)
      | (with_reducible exact spec_GuardOk.mono _ _ _)
      | (with_reducible exact spec_l13Both.mono _ _ _)
      | (with_reducible exact LeO.refl _)
      | (with_reducible exact LeO.none _)
      | (with_reducible refine LeO.ite ?_ ?_)
      | (with_reducible refine LeO.bind ?_ (fun _ => ?_))
      | exact ih0 _ _ _ _ _ _ _
      | exact spec_GuardOk.mono _ _ _
      | exact spec_l13Both.mono _ _ _
      | exact LeO.none _
      | refine LeO.ite ?_ ?_
      | refine LeO.bind ?_ (fun _ => ?_)
theorem spec_Feel.mono : ∀ a0 a1 a2 a3 k, LeO (spec_Feel.f k a0 a1 a2 a3) (spec_Feel.f (k + 1) a0 a1 a2 a3) := by
  intro a0 a1 a2 a3 k
  have ih0 := spec_Feel.mono_l k
  unfold spec_Feel.f
  repeat' first
      | (with_reducible exact ih0 _ _ _ _ _ _ _)
      | (with_reducible exact spec_GuardOk.mono _ _ _)
      | (with_reducible exact spec_l13Both.mono _ _ _)
      | (with_reducible exact LeO.refl _)
      | (with_reducible exact LeO.none _)
      | (with_reducible refine LeO.ite ?_ ?_)
      | (with_reducible refine LeO.bind ?_ (fun _ => ?_))
      | exact ih0 _ _ _ _ _ _ _
      | exact spec_GuardOk.mono _ _ _
      | exact spec_l13Both.mono _ _ _
      | exact LeO.none _
      | refine LeO.ite ?_ ?_
      | refine LeO.bind ?_ (fun _ => ?_)
theorem cz5 {P : Prop} (h : P := by
  have H' := Aside0.mk H; clear H; have hnbz1 := NB141_142.out; have hncz1 := NB142_141.out; have hnbz2 := NB141_147.out; have hncz2 := NB147_141.out; obtain ⟨hczz1, hczz2⟩ := bc2 BK141; obtain ⟨hfzz1, hfzz2⟩ := bf2 BK141
  go_wp2_with (first | ((with_reducible refine gate_callee (f := 55) rfl ?_); refine goesL_ (some 11) rfl rfl Try.func55 (by kernel_rfl) rfl #[.agg #[.slice A0_0 l0_0.length c0_0, .int .i64 a0_1]] rfl sw ?_; (with_reducible refine (spec_GuardOk.calls _ _ _ _ _ _ _ ?side1 ?side2 A16.out).mono ?_); (case side1 => exact Kd.C_below HR0_0.out bw); (case side2 => exact HC0_0.out); rintro e wz1 ⟨rfl, hb⟩; refine ⟨_, rfl, ?_⟩; have n0_ := Aside0.mk (Kd.R_below (by (with_reducible repeat (first | apply Kd.R_alloc | apply Kd.R_drewN | apply Kd.R_drew)); exact (Kd.R_mono (Kd.R_far (p := ⟨gb147, 1, none⟩) (Kd.R_far (p := ⟨gb147, 0, none⟩) (Kd.R_types HO145.out BK147.out (by decide)) (fun _ hk => hk.2) (.slice Ao12 t143.length co12)) (fun _ hk => hk.2) (.int .i64 t146)) (fun _ h_ => h_.1))) hb); have n1_ := Aside0.mk (blk_below (g := gb141) (o := .cells #[.slice A0_0 l0_0.length c0_0, .int .i64 a0_1] 30 (0, 0)) kw hb); have n2_ := Aside0.mk (blk_below (g := gb142) (o := .cells #[.slice none 0 0, .int .i64 0] 30 (0, 0)) kw hb); have n3_ := Aside0.mk (blk_below (g := gb147) (o := .cells #[.slice Ao12 t143.length co12, .int .i64 t146] 30 (0, 0)) kp hb); have n4_ := Aside0.mk (below_step bw hb); replace HO145 := n0_; replace BK141 := n1_; replace BK142 := n2_; replace BK147 := n3_; replace HB := n4_; clear n0_ n1_ n2_ n3_ n4_; (try clear hb); (try clear hb2); (try clear hk); (try clear hi)) | (go_at_call 70; (with_reducible refine (spec_SenseOk.calls _ _ _ A18.out).mono ?_); rintro e w' ⟨rfl, ⟨nd, rfl⟩⟩))
  go_meet
  first | (have _ := tk10_0; (case rel => (exact ⟨_, (!t149), vs, H', ⟨ow⟩, ⟨rw_⟩, ⟨kw⟩, ⟨kw⟩, ⟨kw⟩, ⟨bw⟩⟩))) | (have _ := tk10_1; (case rel => (exact ⟨_, (true), vs, H', ⟨ow⟩, ⟨rw_⟩, ⟨kw⟩, ⟨kw⟩, ⟨kw⟩, ⟨bw⟩⟩)))) : P := h
theorem cz6 {P : Prop} (h : P := by
  (simp only [Option.some.injEq, Prod.mk.injEq] at H); obtain ⟨rfl, rfl⟩ := H; have hnbz1 := NB141_142.out; have hncz1 := NB142_141.out; have hnbz2 := NB141_147.out; have hncz2 := NB147_141.out; obtain ⟨hczz1, hczz2⟩ := bc2 BK141; obtain ⟨hfzz1, hfzz2⟩ := bf2 BK141
  go_wp2_with (first | ((with_reducible refine gate_callee (f := 71) rfl ?_); refine goesL_ (some 22) rfl rfl Try.func71 (by kernel_rfl) rfl #[.int .i64 a0_1, .int .i64 a1] rfl sw ?_; (with_reducible refine (spec_l13Both.calls _ _ _ _ _ A33.out).mono ?_); rintro e w' ⟨rfl, ⟨nd, rfl⟩⟩; refine ⟨_, rfl, ?_⟩; (try (rw [drewN_self wc]; generalize hq_ : World.drewN wc _ = wc; have n0_ : Aside0 (Kd.R (Kd.int .i64) 3 wc w.heap.size (fun _ => True) (.slice Ao12 t143.length co12) t143) := ⟨by rw [← hq_]; exact rw_⟩; have n1_ : Aside0 (wc.heap[gb141]? = some (.cells #[.slice A0_0 l0_0.length c0_0, .int .i64 a0_1] 30 (0, 0))) := ⟨by rw [← hq_]; exact kw⟩; have n2_ : Aside0 (wc.heap[gb142]? = some (.cells #[.slice none 0 0, .int .i64 0] 30 (0, 0))) := ⟨by rw [← hq_]; exact kw⟩; have n3_ : Aside0 (wc.heap[gb147]? = some (.cells #[.slice Ao12 t143.length co12, .int .i64 t146] 30 (0, 0))) := ⟨by rw [← hq_]; exact kw⟩; have n4_ : Aside0 (Below w.heap.size w wc) := ⟨by rw [← hq_]; exact bw⟩; clear HO_148000 BK141 BK142 BK147 HB hq_; have HO_148000 := n0_; have BK141 := n1_; have BK142 := n2_; have BK147 := n3_; have HB := n4_; clear n0_ n1_ n2_ n3_ n4_)); have hnbz3 := NB147_142.out; have hncz3 := NB142_147.out; obtain ⟨hczz3, hczz4⟩ := bc2 BK147; obtain ⟨hfzz3, hfzz4⟩ := bf2 BK147; obtain ⟨hczz5, hczz6⟩ := bc2 BK142; obtain ⟨hfzz5, hfzz6⟩ := bf2 BK142))
  first | (have _ := tk9_0; refine bodyPost_ret (results_cell_row rfl _ _ gb142 30 #[.slice Ao12 t143.length co12, .int .i64 a1] (0, 0) _ rfl kp Try.underlying30 rfl (by kernel_rfl)) rfl ?_; exact ⟨_, by first | rfl | (simp [errW_none, errW_some] <;> rfl) | (simp [*, errW_none, errW_some] <;> rfl), by (with_reducible repeat (first | apply Kd.R_alloc | apply Kd.R_drewN | apply Kd.R_drew)); exact Kd.R_mono (Kd.R_far (p := ⟨gb142, 1, none⟩) (Kd.R_far (p := ⟨gb142, 0, none⟩) (Kd.R_far (p := ⟨gb147, 1, none⟩) (Kd.R_far (p := ⟨gb147, 1, none⟩) (Kd.R_types (Kd.R_types HO_148000.out BK147.out (by decide)) BK142.out (by decide)) (fun _ hk => hk.1.2) (.int .i64 t150)) (fun _ hk => hk.1.2) (.int .i64 a1)) (fun _ hk => hk.2) (.slice Ao12 t143.length co12)) (fun _ hk => hk.2) (.int .i64 a1)) (fun _ hk => trivial), bw⟩) | (have _ := tk9_1; refine bodyPost_ret (results_cell_row rfl _ _ gb142 30 #[.slice Ao12 t143.length co12, .int .i64 t150] (0, 0) _ rfl kp Try.underlying30 rfl (by kernel_rfl)) rfl ?_; exact ⟨_, by first | rfl | (simp [errW_none, errW_some] <;> rfl) | (simp [*, errW_none, errW_some] <;> rfl), by (with_reducible repeat (first | apply Kd.R_alloc | apply Kd.R_drewN | apply Kd.R_drew)); exact Kd.R_mono (Kd.R_far (p := ⟨gb142, 1, none⟩) (Kd.R_far (p := ⟨gb142, 0, none⟩) (Kd.R_far (p := ⟨gb147, 1, none⟩) (Kd.R_types (Kd.R_types HO_148000.out BK147.out (by decide)) BK142.out (by decide)) (fun _ hk => hk.1.2) (.int .i64 t150)) (fun _ hk => hk.2) (.slice Ao12 t143.length co12)) (fun _ hk => hk.2) (.int .i64 t150)) (fun _ hk => trivial), bw⟩)) : P := h
set_option maxHeartbeats 8000000 in
set_option maxRecDepth 100000 in
theorem spec_Feel.calls (k : Nat) (A0_0 : Option Addr) (c0_0 : Nat) (l0_0 : List Int) (a0_1 : Int) (a1 : Int) (a2 : Bool) (r1 : List Int) (r2 : Int) (w : World) (hr0_0 : Kd.C (Kd.int .i64) w A0_0 l0_0.length l0_0) (hc0_0 : l0_0.length ≤ c0_0) (h : spec_Feel.f k l0_0 a0_1 a1 a2 = some (r1, r2)) :
    Calls Try.prog 33 #[.agg #[.slice A0_0 l0_0.length c0_0, .int .i64 a0_1], .int .i64 a1, .bool a2] w fun e w' => ∃ v0_ : Value, e = .returned (.agg #[v0_, .int .i64 r2]) ∧ Kd.R (Kd.int .i64) 3 w' w.heap.size (fun _ => True) v0_ r1 ∧ Below w.heap.size w w' := by
  have hu30 := Try.underlying30; have HR0_0 := Aside0.mk hr0_0; have HC0_0 := Aside0.mk hc0_0; clear hr0_0 hc0_0; have HB := Aside0.mk (Below.refl w.heap.size w); have H : ((spec_l16Copy.f l0_0 a0_1).bind fun bt143 => ((spec_GuardOk.f k l0_0 a0_1).bind fun t148 => (if t148 = true then ((spec_SenseOk.f a1).bind fun t149 => (spec_Feel.j0 k a1 a2 (!t149) l0_0 a0_1 bt143.1 bt143.2)) else (spec_Feel.j0 k a1 a2 true l0_0 a0_1 bt143.1 bt143.2)))) = some (r1, r2) := h; clear h; replace H := Option.bind_eq_some_iff.mp H; obtain ⟨⟨t143, t146⟩, A40, H⟩ := H; (try dsimp only at H); have A4 := Aside0.mk A40; clear A40; have HC5 := Aside0.mk H; clear H
  go_enter Try.func33, Try.ntmps33
  go_upto_region 2 with (first | ((with_reducible refine gate_dst (N := 3) rfl ?_); refine box_event ?hg (N := 3) ?hd (cs := #[.slice A0_0 l0_0.length c0_0, .int .i64 a0_1]) (t := 30) ?hr ?_; (case hd => rfl); (case hg => rfl); (case hr => first | (go_simp; done) | (go_simp; rfl)); intro gb141 hg w6 hbox hb; have n0_ := Aside0.mk (below_step bw hb); have n1_ := Aside0.mk (hbox); have n2_ := Aside0.mk ((lw : w.heap.size ≤ gb141)); have n3_ := Aside0.mk ((lw : w.heap.size ≤ gb141)); replace HB := n0_; have BK141 := n1_; have GW141 := n2_; have GE141 := n3_; clear n0_ n1_ n2_ n3_; clear hb hbox hg) | ((with_reducible refine gate_dst (N := 6) rfl ?_); refine box_event ?hg (N := 6) ?hd (cs := #[.slice none 0 0, .int .i64 0]) (t := 30) ?hr ?_; (case hd => rfl); (case hg => rfl); (case hr => first | (go_simp; done) | (go_simp; rfl)); intro gb142 hg w7 hbox hb; have n0_ := Aside0.mk (blk_below (g := gb141) (o := .cells #[.slice A0_0 l0_0.length c0_0, .int .i64 a0_1] 30 (0, 0)) kw hb); have n1_ := Aside0.mk (below_step bw hb); have n2_ := Aside0.mk (hbox); have n3_ := Aside0.mk ((lw : w.heap.size ≤ gb142)); have n4_ := Aside0.mk ((lw : w.heap.size ≤ gb142)); have n5_ := Aside0.mk ((nl : gb141 ≠ gb142)); have n6_ := Aside0.mk ((ng : gb142 ≠ gb141)); replace BK141 := n0_; replace HB := n1_; have BK142 := n2_; have GW142 := n3_; have GE142 := n4_; have NB141_142 := n5_; have NB142_141 := n6_; clear n0_ n1_ n2_ n3_ n4_ n5_ n6_; clear hb hbox hg; have hnb8 := NB141_142.out; have hnc8 := NB142_141.out; obtain ⟨hcz9_0, hcz9_1⟩ := bc2 BK141; obtain ⟨hfz9_0, hfz9_1⟩ := bf2 BK141) | ((with_reducible refine gate_callee (f := 66) rfl ?_); refine goesL_ (some 9) rfl rfl Try.func66 (by kernel_rfl) rfl #[.agg #[.slice A0_0 l0_0.length c0_0, .int .i64 a0_1]] rfl sw ?_; (with_reducible refine (spec_l16Copy.calls _ _ _ _ _ _ _ ?side1 ?side2 A4.out).mono ?_); (case side1 => repeat (first | exact (Kd.C_below HR0_0.out HB.out) | (with_reducible refine Kd.C_alloc ?_ _) | (with_reducible refine Kd.C_drewN ?_ _) | (with_reducible refine Kd.C_drew ?_))); (case side2 => exact HC0_0.out); rintro e w10 ⟨v144, rfl, ho0, hb⟩; refine ⟨_, rfl, ?_⟩; have n0_ := Aside0.mk (Kd.R_lower ho0 (below_size bw)); have n1_ := Aside0.mk (blk_below (g := gb141) (o := .cells #[.slice A0_0 l0_0.length c0_0, .int .i64 a0_1] 30 (0, 0)) kw hb); have n2_ := Aside0.mk (blk_below (g := gb142) (o := .cells #[.slice none 0 0, .int .i64 0] 30 (0, 0)) kw hb); have n3_ := Aside0.mk (below_step bw hb); have HO145 := n0_; replace BK141 := n1_; replace BK142 := n2_; replace HB := n3_; clear n0_ n1_ n2_ n3_; (try clear hb); (try clear hb2); (try clear hk); (try clear hi); (try clear ho0)) | ((with_reducible refine gate_dst (N := 7) rfl ?_); refine box_event ?hg (N := 7) ?hd (cs := #[.slice none 0 0, .int .i64 0]) (t := 30) ?hr ?_; (case hd => rfl); (case hg => rfl); (case hr => first | (go_simp; done) | (go_simp; rfl)); intro gb147 hg w11 hbox hb; have n0_ := Aside0.mk (Kd.R_below rw_ hb); have n1_ := Aside0.mk (blk_below (g := gb141) (o := .cells #[.slice A0_0 l0_0.length c0_0, .int .i64 a0_1] 30 (0, 0)) kw hb); have n2_ := Aside0.mk (blk_below (g := gb142) (o := .cells #[.slice none 0 0, .int .i64 0] 30 (0, 0)) kw hb); have n3_ := Aside0.mk (below_step bw hb); have n4_ := Aside0.mk (hbox); have n5_ := Aside0.mk ((lw : w.heap.size ≤ gb147)); have n6_ := Aside0.mk ((lw : w.heap.size ≤ gb147)); have n7_ := Aside0.mk ((nl : gb141 ≠ gb147)); have n8_ := Aside0.mk ((ng : gb147 ≠ gb141)); have n9_ := Aside0.mk ((nl : gb142 ≠ gb147)); have n10_ := Aside0.mk ((ng : gb147 ≠ gb142)); replace HO145 := n0_; replace BK141 := n1_; replace BK142 := n2_; replace HB := n3_; have BK147 := n4_; have GW147 := n5_; have GE147 := n6_; have NB141_147 := n7_; have NB147_141 := n8_; have NB142_147 := n9_; have NB147_142 := n10_; clear n0_ n1_ n2_ n3_ n4_ n5_ n6_ n7_ n8_ n9_ n10_; clear hb hbox hg; obtain ⟨Ao12, co12, eo12⟩ := Kd.R_slice HO145.out; subst eo12; have hnb13 := NB147_141.out; have hnc13 := NB141_147.out; have hnb14 := NB147_142.out; have hnc14 := NB142_147.out; obtain ⟨hcz15_0, hcz15_1⟩ := bc2 BK147; obtain ⟨hfz15_0, hfz15_1⟩ := bf2 BK147))
  (try simp only [Act.put, List.setIfInBounds_toArray, List.set_cons_zero, List.set_cons_succ])
  go_cut [17] (fun v17 wc => ∃ (kq : Nat) (x17_4 : Bool), v17 = .bool x17_4 ∧ Aside0 (spec_Feel.j0 kq a1 a2 x17_4 l0_0 a0_1 t143 t146 = some (r1, r2)) ∧ Aside0 (kq ≤ k) ∧ Aside0 (Kd.R (Kd.int .i64) 3 wc w.heap.size (fun _ => True) (.slice Ao12 t143.length co12) t143) ∧ Aside0 (wc.heap[gb141]? = some (.cells #[(.slice A0_0 l0_0.length c0_0), .int .i64 a0_1] 30 (0, 0))) ∧ Aside0 (wc.heap[gb142]? = some (.cells #[(.slice none 0 0), .int .i64 0] 30 (0, 0))) ∧ Aside0 (wc.heap[gb147]? = some (.cells #[(.slice Ao12 t143.length co12), .int .i64 t146] 30 (0, 0))) ∧ Aside0 (Below w.heap.size w wc))
  case first =>
    have H := HC5.out; clear HC5; replace H := Option.bind_eq_some_iff.mp H; obtain ⟨t148, A160, H⟩ := H; (try dsimp only at H); have A16 := Aside0.mk A160; clear A160
    by_cases c17 : t148 = true
    · subst c17; (have H1 : ((spec_SenseOk.f a1).bind fun t149 => (spec_Feel.j0 k a1 a2 (!t149) l0_0 a0_1 t143 t146)) = some (r1, r2) := by rw [if_pos rfl] at H; exact H); clear H; have H := H1; clear H1; replace H := Option.bind_eq_some_iff.mp H; obtain ⟨t149, A180, H⟩ := H; (try dsimp only at H); have A18 := Aside0.mk A180; clear A180; have tk10_0 := True.intro; exact cz5
    · replace c17 := Bool.eq_false_iff.mpr c17; subst c17; (have H1 : (spec_Feel.j0 k a1 a2 true l0_0 a0_1 t143 t146) = some (r1, r2) := by rw [if_neg (show ¬ (false = true) by decide)] at H; exact H); clear H; have H := H1; clear H1; have tk10_1 := True.intro; exact cz5
  case rest =>
    clear HC5; (try clear c17); (try clear hcz15_0); (try clear hcz15_1); (try clear hcz21_0); (try clear hcz21_1); (try clear hcz25_0); (try clear hcz25_1); (try clear hcz9_0); (try clear hcz9_1); (try clear hfz15_0); (try clear hfz15_1); (try clear hfz21_0); (try clear hfz21_1); (try clear hfz25_0); (try clear hfz25_1); (try clear hfz9_0); (try clear hfz9_1); obtain ⟨kq, x17_4, rfl, HA, HJ4, HO_148000, BK141, BK142, BK147, HB⟩ := hcut
    cases kq with
    | zero => exact absurd HA.out (by simp [spec_Feel.j0])
    | succ kj4 =>
      have H := HA.out; clear HA; (simp only [spec_Feel.j0] at H)
      by_cases c27 : x17_4 = true
      · subst c27; (have H1 : (some (t143, t146)) = some (r1, r2) := by rw [if_pos rfl] at H; exact H); clear H; have H := H1; clear H1; (simp only [Option.some.injEq, Prod.mk.injEq] at H); obtain ⟨rfl, rfl⟩ := H; have hnb28 := NB147_141.out; have hnc28 := NB141_147.out; have hnb29 := NB147_142.out; have hnc29 := NB142_147.out; obtain ⟨hcz30_0, hcz30_1⟩ := bc2 BK147; obtain ⟨hfz30_0, hfz30_1⟩ := bf2 BK147; have hnb31 := NB142_141.out; have hnc31 := NB141_142.out; obtain ⟨hcz32_0, hcz32_1⟩ := bc2 BK142; obtain ⟨hfz32_0, hfz32_1⟩ := bf2 BK142
        go_wp2
        refine bodyPost_ret (results_cell_row rfl _ _ gb142 30 #[.slice Ao12 t143.length co12, .int .i64 t146] (0, 0) _ rfl kp Try.underlying30 rfl (by kernel_rfl)) rfl ?_; exact ⟨_, by first | rfl | (simp [errW_none, errW_some] <;> rfl) | (simp [*, errW_none, errW_some] <;> rfl), by (with_reducible repeat (first | apply Kd.R_alloc | apply Kd.R_drewN | apply Kd.R_drew)); exact Kd.R_mono (Kd.R_far (p := ⟨gb142, 1, none⟩) (Kd.R_far (p := ⟨gb142, 0, none⟩) (Kd.R_types HO_148000.out BK142.out (by decide)) (fun _ hk => hk.2) (.slice Ao12 t143.length co12)) (fun _ hk => hk.2) (.int .i64 t146)) (fun _ hk => trivial), bw⟩
      · replace c27 := Bool.eq_false_iff.mpr c27; subst c27; (have H1 : ((spec_l13Both.f kj4 a0_1 a1).bind fun t150 => (if a2 = true then (some (t143, a1)) else (some (t143, t150)))) = some (r1, r2) := by rw [if_neg (show ¬ (false = true) by decide)] at H; exact H); clear H; have H := H1; clear H1; replace H := Option.bind_eq_some_iff.mp H; obtain ⟨t150, A330, H⟩ := H; (try dsimp only at H); have A33 := Aside0.mk A330; clear A330
        by_cases c34 : a2 = true
        · subst c34; (have H1 : (some (t143, a1)) = some (r1, r2) := by rw [if_pos rfl] at H; exact H); clear H; have H := H1; clear H1; have tk9_0 := True.intro; exact cz6
        · replace c34 := Bool.eq_false_iff.mpr c34; subst c34; (have H1 : (some (t143, t150)) = some (r1, r2) := by rw [if_neg (show ¬ (false = true) by decide)] at H; exact H); clear H; have H := H1; clear H1; have tk9_1 := True.intro; exact cz6

def impl_RoomOf.l0 : Nat → Int → List Int → Int → Int → Option (Int)
  | 0, _, _, _, _ => none
  | k + 1, x3, x7, x8, x9 => if x9 < x8 then (if 0 ≤ x9 then (if x9 < (x7.length : Int) then (impl_RoomOf.l0 k (wrap64 (x3 - (rd x7 x9))) x7 x8 (wrap64 (x9 + 1))) else (none)) else (none)) else (some x3)
def impl_RoomOf.f (k : Nat) (l0_0 : List Int) (a0_1 : Int) : Option (Int) := impl_RoomOf.l0 k 30 l0_0 (l0_0.length : Int) 0
theorem impl_RoomOf.mono_l : ∀ k, (∀ y0 y1 y2 y3, LeO (impl_RoomOf.l0 k y0 y1 y2 y3) (impl_RoomOf.l0 (k + 1) y0 y1 y2 y3))
  | 0 => fun _ _ _ _ r h => by simp [impl_RoomOf.l0] at h
  | k + 1 => by
    have ih0 := impl_RoomOf.mono_l k
    · intro y0 y1 y2 y3
      unfold impl_RoomOf.l0
      repeat' first
      | (with_reducible exact ih0 _ _ _ _)
      | (with_reducible exact LeO.refl _)
      | (with_reducible exact LeO.none _)
      | (with_reducible refine LeO.ite ?_ ?_)
      | (with_reducible refine LeO.bind ?_ (fun _ => ?_))
      | exact ih0 _ _ _ _
      | exact LeO.none _
      | refine LeO.ite ?_ ?_
      | refine LeO.bind ?_ (fun _ => ?_)
theorem impl_RoomOf.mono : ∀ a0 a1 k, LeO (impl_RoomOf.f k a0 a1) (impl_RoomOf.f (k + 1) a0 a1) := by
  intro a0 a1 k
  have ih0 := impl_RoomOf.mono_l k
  unfold impl_RoomOf.f
  repeat' first
      | (with_reducible exact ih0 _ _ _ _)
      | (with_reducible exact LeO.refl _)
      | (with_reducible exact LeO.none _)
      | (with_reducible refine LeO.ite ?_ ?_)
      | (with_reducible refine LeO.bind ?_ (fun _ => ?_))
      | exact ih0 _ _ _ _
      | exact LeO.none _
      | refine LeO.ite ?_ ?_
      | refine LeO.bind ?_ (fun _ => ?_)
set_option maxHeartbeats 8000000 in
set_option maxRecDepth 100000 in
theorem impl_RoomOf.calls (k : Nat) (A0_0 : Option Addr) (c0_0 : Nat) (l0_0 : List Int) (a0_1 : Int) (r : Int) (w : World) (hr0_0 : Kd.C (Kd.int .i64) w A0_0 l0_0.length l0_0) (hc0_0 : l0_0.length ≤ c0_0) (h : impl_RoomOf.f k l0_0 a0_1 = some r) :
    Calls Try.prog 59 #[.agg #[.slice A0_0 l0_0.length c0_0, .int .i64 a0_1]] w fun e w' => e = .returned (.int .i64 r) ∧ Below w.heap.size w w' := by
  have hu30 := Try.underlying30; have HR0_0 := Aside0.mk hr0_0; have HC0_0 := Aside0.mk hc0_0; clear hr0_0 hc0_0; have HB := Aside0.mk (Below.refl w.heap.size w); have H : (impl_RoomOf.l0 k 30 l0_0 (l0_0.length : Int) 0) = some r := h; clear h; have H' := Aside0.mk H; clear H
  go_enter Try.func59, Try.ntmps59
  go_wp2_with (first | ((with_reducible refine gate_dst (N := 1) rfl ?_); refine box_event ?hg (N := 1) ?hd (cs := #[.slice A0_0 l0_0.length c0_0, .int .i64 a0_1]) (t := 30) ?hr ?_; (case hd => rfl); (case hg => rfl); (case hr => first | (go_simp; done) | (go_simp; rfl)); intro gb151 hg w2 hbox hb; have n0_ := Aside0.mk (below_step bw hb); have n1_ := Aside0.mk (hbox); have n2_ := Aside0.mk ((lw : w.heap.size ≤ gb151)); have n3_ := Aside0.mk ((lw : w.heap.size ≤ gb151)); replace HB := n0_; have BK151 := n1_; have GW151 := n2_; have GE151 := n3_; clear n0_ n1_ n2_ n3_; clear hb hbox hg; obtain ⟨hcz3_0, hcz3_1⟩ := bc2 BK151; obtain ⟨hfz3_0, hfz3_1⟩ := bf2 BK151))
  go_loopg [3, 9] k (fun kq v3 v9 w' => ∃ (x3_1 : Int) (x9_1 : Int), v3 = .int .i64 x3_1 ∧ v9 = .int .i64 x9_1 ∧ Aside0 (impl_RoomOf.l0 kq x3_1 l0_0 (l0_0.length : Int) x9_1 = some r) ∧ Aside0 (kq ≤ k) ∧ Aside0 (w'.heap[gb151]? = some (.cells #[(.slice A0_0 l0_0.length c0_0), .int .i64 a0_1] 30 (0, 0))) ∧ Aside0 (Below w.heap.size w w'))
  case atStart => exact ⟨(30), (0), vs, vs, H', ⟨Nat.le_refl _⟩, ⟨kw⟩, ⟨bw⟩⟩
  case round =>
    clear H'; (try clear hcz3_0); (try clear hcz3_1); (try clear hfz3_0); (try clear hfz3_1); obtain ⟨x3_1, x9_1, rfl, rfl, HA, HK1, BK151, HB⟩ := hrel
    cases gk with
    | zero => exact absurd HA.out (by simp [impl_RoomOf.l0])
    | succ k1 =>
      have H := HA.out; clear HA; (simp only [impl_RoomOf.l0] at H)
      by_cases c4 : x9_1 < (l0_0.length : Int)
      · (rw [if_pos c4] at H); have c4b0 : decide (x9_1 < (l0_0.length : Int)) = true := decide_eq_true c4; clear c4
        by_cases c5 : 0 ≤ x9_1
        · (rw [if_pos c5] at H); have c5b0 : decide (0 ≤ x9_1) = true := decide_eq_true c5; clear c5
          by_cases c6 : x9_1 < (l0_0.length : Int)
          · (rw [if_pos c6] at H); have c6b0 : decide (x9_1 < (l0_0.length : Int)) = true := decide_eq_true c6; clear c6; have H' := Aside0.mk H; clear H; have p152 : 0 ≤ (x9_1 : Int) := of_decide_eq_true va; have q152 : x9_1 < (l0_0.length : Int) := of_decide_eq_true va; obtain ⟨ad152, e152, hx152_0⟩ := Kd.at_int HR0_0.out x9_1 p152 q152
            cases e152
            replace hx152_0 := (HB.out.cell (World.block_lt_of_cell? w _ hx152_0)).trans hx152_0; replace p152 := eq_true p152; replace q152 := eq_true q152
            go_wp2
            go_roundg k1
            case measure => have := HK1.out; omega
            case rel => exact ⟨(wrap64 (x3_1 - (rd l0_0 x9_1))), (wrap64 (x9_1 + 1)), vs, vs, H', ⟨hj⟩, ⟨kw⟩, ⟨bw⟩⟩
          · (rw [if_neg c6] at H); exact absurd H (by simp)
        · (rw [if_neg c5] at H); exact absurd H (by simp)
      · (rw [if_neg c4] at H); have c4b0 : decide (x9_1 < (l0_0.length : Int)) = false := decide_eq_false c4; clear c4; obtain rfl := Option.some.inj H
        go_wp2
        go_ret
        exact ⟨by first | rfl | (simp [errW_none, errW_some] <;> rfl) | (simp [*, errW_none, errW_some] <;> rfl), bw⟩

def impl_within.f (a0 : Int) (a1 : Int) (a2 : Int) : Option (Bool) := if a0 ≥ a1 then (some (decide (a0 ≤ a2))) else (some false)
set_option maxHeartbeats 8000000 in
set_option maxRecDepth 100000 in
theorem impl_within.calls (a0 : Int) (a1 : Int) (a2 : Int) (r : Bool) (w : World) (h : impl_within.f a0 a1 a2 = some r) :
    Calls Try.prog 82 #[.int .i64 a0, .int .i64 a1, .int .i64 a2] w fun e w' => e = .returned (.bool r) ∧ Drawn0 w w' := by
  have H : (if a0 ≥ a1 then (some (decide (a0 ≤ a2))) else (some false)) = some r := h; clear h
  by_cases c4 : a0 ≥ a1
  · (rw [if_pos c4] at H); have c4b0 : decide (a1 ≤ a0) = true := decide_eq_true c4; clear c4; obtain rfl := Option.some.inj H
    go_enter Try.func82, Try.ntmps82
    go_wp2
    go_ret
    exact ⟨vs, dw⟩
  · (rw [if_neg c4] at H); have c4b0 : decide (a1 ≤ a0) = false := decide_eq_false c4; clear c4; obtain rfl := Option.some.inj H
    go_enter Try.func82, Try.ntmps82
    go_wp2
    go_ret
    exact ⟨vs, dw⟩

def impl_SenseOk.f (a0 : Int) : Option (Bool) := (impl_within.f a0 0 15).bind fun t153 => (some t153)
set_option maxHeartbeats 8000000 in
set_option maxRecDepth 100000 in
theorem impl_SenseOk.calls (a0 : Int) (r : Bool) (w : World) (h : impl_SenseOk.f a0 = some r) :
    Calls Try.prog 72 #[.int .i64 a0] w fun e w' => e = .returned (.bool r) ∧ Drawn0 w w' := by
  have H : ((impl_within.f a0 0 15).bind fun t153 => (some t153)) = some r := h; clear h; replace H := Option.bind_eq_some_iff.mp H; obtain ⟨t153, A20, H⟩ := H; replace H : (some t153) = some r := H; have A2 := Aside0.mk A20; clear A20; obtain rfl := Option.some.inj H
  go_enter Try.func72, Try.ntmps72
  go_wp2_with (first | ((with_reducible refine gate_callee (f := 82) rfl ?_); refine goesL_ (some 4) rfl rfl Try.func82 (by kernel_rfl) rfl #[.int .i64 a0, .int .i64 0, .int .i64 15] rfl sw ?_; (with_reducible refine (impl_within.calls _ _ _ _ _ A2.out).mono ?_); rintro e w' ⟨rfl, ⟨nd, rfl⟩⟩; refine ⟨_, rfl, ?_⟩))
  go_ret
  exact ⟨vs, dw⟩

end Go.Proofs.Ytklcjpidbpplkaa.PFnExactFeel
