/- Functions of the library at the seat's program, as contracts. -/
import Derived.Shelf.Lay
import Derived.Shelf.LaysM
import Derived.Test.YtogagfoikapbpaaDoorProg
import Derived.Test.YtogagfoikapbpaaDoorSz3
import Derived.Shelf.Strings.OnBuilder
import Derived.Shelf.Strconv.Itoa3
import Derived.Shelf.Strings.Split
import Derived.Shelf.Strings.Replace
import Derived.Shelf.Small.Strs
import Derived.Shelf.Strconv.ErrVarAll
import Derived.WalkKit
import Derived.BigCall
set_option linter.unusedVariables false
set_option linter.unusedSimpArgs false
namespace Go.Proofs
open Go.Shelf
shelf_lay Lays.n156 Nm 156 at Tryd as Tryd.lays156
theorem Tryd.Builder_Extra_156 : Builder.Extra Tryd.prog Tryd.lays156_ren where
  sizeBuilder := by kernel_rfl
  liesBuilder := by kernel_rfl
  t5 := Tryd.underlying5
  a5 := Tryd.isAgg5
  z5 := Tryd.sizeOf5
  v5 := Tryd.zeroValue5
  infoByte := by kernel_rfl
  cellsByte := by kernel_rfl
  sizeByte := by kernel_rfl
  neB5 := by decide
shelf_lay LaysM.n171 Nm 171 at Tryd as Tryd.laysM171
shelf_lay Lays.n146 Nm 146 at Tryd as Tryd.lays146
shelf_lay Lays.n155 Nm 155 at Tryd as Tryd.lays155
theorem Tryd.Builder_Extra_155 : Builder.Extra Tryd.prog Tryd.lays155_ren where
  sizeBuilder := by kernel_rfl
  liesBuilder := by kernel_rfl
  t5 := Tryd.underlying5
  a5 := Tryd.isAgg5
  z5 := Tryd.sizeOf5
  v5 := Tryd.zeroValue5
  infoByte := by kernel_rfl
  cellsByte := by kernel_rfl
  sizeByte := by kernel_rfl
  neB5 := by decide
shelf_lay Lays.n137 Nm 137 at Tryd as Tryd.lays137
shelf_lay LaysC.n172 Nm 172 at Tryd as Tryd.laysC172
end Go.Proofs
namespace Go.Sx
open Go.Proofs Go.Shelf Go.RowKit Go.Sort
theorem ok_join : CtrOK Tryd.prog 45 ⟨[.c (.sl .str), .c .str], 1, [.v false [.str]], fun _ x => joinF x.1 x.2⟩ := by
  refine con_ls_s ⟨_, Tryd.func45, rfl, rfl⟩ ?_
  intro j l t b hb A c w h1 h2 h3
  have hb : joinF l t = some b := hb
  unfold joinF at hb
  split at hb
  · rename_i hn
    injection hb with hb
    subst hb
    cases l with
    | nil =>
      refine (Any.strings_Join_none Tryd.lays156 Tryd.Builder_Extra_156 A c t w).mono ?_
      rintro e w' ⟨rfl, rfl⟩
      exact ⟨rfl, Below.refl _ _⟩
    | cons x r =>
      obtain ⟨b, o, rfl, hlt, hcell⟩ := h3 (by simp)
      exact Any.strings_Join Tryd.lays156 Tryd.Builder_Extra_156 b o c (x :: r) t w hcell hlt hn.1 h1 hn.2
  · cases hb
theorem below_grow (w : World) (k : Nat) (os : Array Obj) : Below w.heap.size w (grow (w.drewN k) os) :=
  ⟨rfl, rfl, rfl, by show w.heap.size ≤ (w.heap ++ os).size; simp, fun i hi => by show (w.heap ++ os)[i]? = w.heap[i]?; rw [Array.getElem?_append_left hi]⟩
theorem ok_itoa : CtrOK Tryd.prog 53 ⟨[.c (.int .i64)], 1, [.v false [.str]], fun _ => itoaF⟩ := by
  refine con_i_s ⟨_, Tryd.func53, rfl, rfl⟩ ?_
  intro j n b hb base G w0 w hp ν hT hm
  have hb : itoaF n = some b := hb
  unfold itoaF at hb
  split at hb
  · rename_i hn
    injection hb with hb
    subst hb
    refine (Any.strconv_Itoa Tryd.laysM171 n hn.1 hn.2 w (tabs_pow (tabs_now hT hm) (by kernel_rfl))).mono ?_
    rintro e w' ⟨rfl, k, os, rfl⟩
    exact ⟨rfl, below_grow w k os⟩
  · cases hb
theorem ok_split : CtrOK Tryd.prog 23 ⟨[.c .str, .c .str], 1, [.v false [.own .str 9]], fun _ x => splitF x.1 x.2⟩ := by
  refine con_ss_own ⟨_, Tryd.func23, rfl, rfl⟩ ?_
  intro j s t l hb base G w0 w hp ν hT hm
  have hb : splitF s t = some l := hb
  have hlen := splitF_len hb
  unfold splitF at hb
  split at hb
  · rename_i hn
    injection hb with hb
    obtain ⟨m, hmx⟩ := tabs_maxlen (tabs_now hT hm) (g := 0) (by kernel_rfl)
    refine ⟨by simp only [maxLen]; omega, ?_⟩
    have hall := Go.Lib.splitB_all t hn.2 0 _ s rfl
    rw [hb] at hall
    refine (Any.strings_Split Tryd.lays146 (by kernel_rfl) s t m w hn.1 hmx hn.2).mono ?_
    rintro e w' ⟨rfl, rfl⟩
    rw [hb, ← hall]
    exact ⟨rfl, rfl⟩
  · cases hb
theorem ok_replace : CtrOK Tryd.prog 26 ⟨[.c .str, .c .str, .c .str], 1, [.v false [.str]], fun _ x => replaceF x.1 x.2.1 x.2.2⟩ := by
  refine con_sss_s ⟨_, Tryd.func26, rfl, rfl⟩ ?_
  intro j s t u b hb base G w0 w hp ν hT hm
  have hb : replaceF s t u = some b := hb
  unfold replaceF at hb
  split at hb
  · rename_i hn
    injection hb with hb
    subst hb
    obtain ⟨m, hmx⟩ := tabs_maxlen (tabs_now hT hm) (g := 0) (by kernel_rfl)
    exact Any.strings_ReplaceAll Tryd.lays155 Tryd.Builder_Extra_155 s t u m w hn.1 hmx hn.2.1 hn.2.2
  · cases hb
theorem ok_indexbyte : CtrOK Tryd.prog 36 ⟨[.c .str, .c (.int .u8)], 1, [.v false [.int .i64]], fun _ x => some (indexByteF x.1 x.2)⟩ := by
  refine con_si_i ⟨_, Tryd.func36, rfl, rfl⟩ ?_
  intro j s n b hb w
  have hb : some (indexByteF s n) = some b := hb
  injection hb with hb
  subst hb
  refine (Any.strings_IndexByte Tryd.lays137 s n w).mono ?_
  rintro e w' ⟨rfl, rfl⟩
  exact ⟨rfl, Below.refl _ _⟩
theorem below_le {w w' : World} {n m : Nat} (h : Below m w w') (hn : n ≤ m) : Below n w w' := ⟨h.os, h.tape, h.output, h.size, fun k hk => h.block k (Nat.lt_of_lt_of_le hk hn)⟩
theorem within_calls (n a b : Int) (w : World) : Calls Tryd.prog 24 #[.int .i64 n, .int .i64 a, .int .i64 b] w fun e w' => e = .returned (.bool (decide (a ≤ n ∧ n ≤ b))) ∧ w' = w := by
  by_cases h1 : a ≤ n
  · by_cases h2 : n ≤ b
    · rw [decide_eq_true (⟨h1, h2⟩ : a ≤ n ∧ n ≤ b)]
      go_enter Tryd.func24, Tryd.ntmps24
      go_wp2
      go_ret
      exact ⟨by simp [h1, h2], rfl⟩
    · rw [decide_eq_false (fun q : a ≤ n ∧ n ≤ b => h2 q.2)]
      go_enter Tryd.func24, Tryd.ntmps24
      go_wp2
      go_ret
      exact ⟨by simp [h1, h2], rfl⟩
  · rw [decide_eq_false (fun q : a ≤ n ∧ n ≤ b => h1 q.1)]
    go_enter Tryd.func24, Tryd.ntmps24
    go_wp2
    go_ret
    exact ⟨by simp [h1], rfl⟩
theorem decimal_calls (n : Int) (hn : -9223372036854775808 ≤ n ∧ n ≤ 9223372036854775807) (w : World) (hT : Tabs Tryd.prog w.heap.size (fun _ => False) w) : Calls Tryd.prog 38 #[.int .i64 n] w fun e w' => e = .returned (.string ⟨(Go.Lib.itoa n).toArray⟩) ∧ Below w.heap.size w w' := by
  have c := Any.strconv_Itoa Tryd.laysM171 n hn.1 hn.2 w (tabs_pow hT (by kernel_rfl))
  go_enter Tryd.func38, Tryd.ntmps38
  go_wp2_with (go_at_call 53; refine c.mono ?_; rintro e w' ⟨rfl, k, os, rfl⟩)
  go_ret
  exact ⟨rfl, below_grow w k os⟩
set_option maxRecDepth 100000 in
theorem readDec_calls (s : ByteArray) (hs : s.size ≤ 281474976710656) (w : World) (hT : Tabs Tryd.prog w.heap.size (fun _ => False) w) :
    Calls Tryd.prog 28 #[.string s] w fun e w' => e = .returned (.tuple #[.int .i64 (readDecF s).1, .bool (readDecF s).2]) ∧ Below w.heap.size w w' := by
  unfold readDecF
  have key : bl s = s.data.toList := rfl
  rw [key]
  cases h : Lib.atoiAll s.data.toList
  case ok v =>
    have hv := Lib.atoiAll_bounds h
    have hA := Any.strconv_Atoi_ok Tryd.laysC172 s (by omega) v h w
    simp only []
    by_cases h1 : 0 ≤ v ∧ v ≤ 1000000000
    · by_cases h2 : (⟨(Go.Lib.itoa v).toArray⟩ : ByteArray) = s
      · have hc : 0 ≤ v ∧ v ≤ 1000000000 ∧ ofL (Go.Lib.itoa v) = s := ⟨h1.1, h1.2, h2⟩
        rw [if_pos hc]
        go_enter Tryd.func28, Tryd.ntmps28
        go_wp2_with (go_at_call 37; refine hA.mono ?_; rintro e W1 ⟨rfl, hw⟩)
        have hb : Below w.heap.size w W1 := by
          rcases hw with rfl | ⟨t, rfl⟩
          · exact Below.refl _ _
          · exact Lib.bytesWorld_below _ _ _
        have hT1 := tabs_below hT hb
        clear hw
        have hd := decimal_calls v ⟨by omega, by omega⟩ W1 hT1
        go_wp2_with (go_at_call 24; refine (within_calls v 0 1000000000 W1).mono ?_; rw [decide_eq_true h1]; rintro e w' ⟨rfl, rfl⟩)
        go_wp2_with (go_at_call 38; refine hd.mono ?_; rintro e W2 ⟨rfl, hb2⟩)
        go_ret2
        exact ⟨rfl, hb.trans (below_le hb2 hb.size)⟩
      · have hc : ¬ (0 ≤ v ∧ v ≤ 1000000000 ∧ ofL (Go.Lib.itoa v) = s) := fun q => h2 q.2.2
        rw [if_neg hc]
        go_enter Tryd.func28, Tryd.ntmps28
        go_wp2_with (go_at_call 37; refine hA.mono ?_; rintro e W1 ⟨rfl, hw⟩)
        have hb : Below w.heap.size w W1 := by
          rcases hw with rfl | ⟨t, rfl⟩
          · exact Below.refl _ _
          · exact Lib.bytesWorld_below _ _ _
        have hT1 := tabs_below hT hb
        clear hw
        have hd := decimal_calls v ⟨by omega, by omega⟩ W1 hT1
        go_wp2_with (go_at_call 24; refine (within_calls v 0 1000000000 W1).mono ?_; rw [decide_eq_true h1]; rintro e w' ⟨rfl, rfl⟩)
        go_wp2_with (go_at_call 38; refine hd.mono ?_; rintro e W2 ⟨rfl, hb2⟩)
        · go_ret2
          exact ⟨rfl, hb.trans (below_le hb2 hb.size)⟩
        · exfalso
          rename_i hq
          refine h2 ?_
          rw [← ofL_bl s]
          show ofL (Go.Lib.itoa v) = ofL (bl s)
          congr 1
          have hq2 : (Go.Lib.itoa v == s.toList) = true := by simpa using hq
          rw [Go.Lib.toList_data] at hq2
          exact beq_iff_eq.1 hq2
    · have hc : ¬ (0 ≤ v ∧ v ≤ 1000000000 ∧ ofL (Go.Lib.itoa v) = s) := fun q => h1 ⟨q.1, q.2.1⟩
      rw [if_neg hc]
      go_enter Tryd.func28, Tryd.ntmps28
      go_wp2_with (go_at_call 37; refine hA.mono ?_; rintro e W1 ⟨rfl, hw⟩)
      have hb : Below w.heap.size w W1 := by
        rcases hw with rfl | ⟨t, rfl⟩
        · exact Below.refl _ _
        · exact Lib.bytesWorld_below _ _ _
      have hT1 := tabs_below hT hb
      clear hw
      go_wp2_with (go_at_call 24; refine (within_calls v 0 1000000000 W1).mono ?_; rw [decide_eq_false h1]; rintro e w' ⟨rfl, rfl⟩)
      go_wp2
      go_ret2
      exact ⟨rfl, hb⟩
  case range =>
    obtain ⟨tp, p, hvar⟩ := tabs_range hT (by kernel_rfl)
    have hA := Any.strconv_Atoi_range_var Tryd.laysC172 s hs h tp p w hvar
    simp only []
    go_enter Tryd.func28, Tryd.ntmps28
    go_wp2_with (go_at_call 37; refine hA.mono ?_; rintro e W1 ⟨M, rfl, -, -, hb⟩)
    go_wp2
    go_ret2
    exact ⟨rfl, hb⟩
  · obtain ⟨tp, p, hvar⟩ := tabs_syntax hT (by kernel_rfl)
    have hA := Any.strconv_Atoi_syntax_var Tryd.laysC172 s hs h tp p w hvar
    simp only []
    go_enter Tryd.func28, Tryd.ntmps28
    go_wp2_with (go_at_call 37; refine hA.mono ?_; rintro e W1 ⟨M, rfl, -, -, hb⟩)
    go_wp2
    go_ret2
    exact ⟨rfl, hb⟩
theorem ok_readdec : CtrOK Tryd.prog 28 ⟨[.c .str], 2, [.v false [.int .i64], .v false [.bool]], fun _ => readDecG⟩ := by
  refine con_s_ib ⟨_, Tryd.func28, rfl, rfl⟩ ?_
  intro j s b hb base G w0 w hp ν hT hm
  have hb : readDecG s = some b := hb
  unfold readDecG at hb
  split at hb
  · rename_i hn
    injection hb with hb
    subst hb
    exact readDec_calls s hn w (tabs_now hT hm)
  · cases hb
end Go.Sx
