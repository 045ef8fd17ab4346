/- Functions of the library at the seat's program, as contracts. -/
import Derived.Shelf.Lay
import Derived.Shelf.LaysM
import Derived.Test.YtkcfdkfdmglamaaDoorProg
import Derived.Test.YtkcfdkfdmglamaaDoorSz3
import Derived.Shelf.Strings.OnBuilder
import Derived.Shelf.Strconv.Itoa3
set_option linter.unusedVariables false
set_option linter.unusedSimpArgs false
namespace Go.Proofs
open Go.Shelf
shelf_lay Lays.n156 Nm 156 at Tryd as Tryd.lays156
theorem Tryd.Builder_Extra_156 : Builder.Extra Tryd.prog Tryd.lays156_ren where
  sizeBuilder := by kernel_rfl
  liesBuilder := by kernel_rfl
  t5 := Tryd.underlying5
  a5 := Tryd.isAgg5
  z5 := Tryd.sizeOf5
  v5 := Tryd.zeroValue5
  infoByte := by kernel_rfl
  cellsByte := by kernel_rfl
  sizeByte := by kernel_rfl
  neB5 := by decide
shelf_lay LaysM.n171 Nm 171 at Tryd as Tryd.laysM171
end Go.Proofs
namespace Go.Sx
open Go.Proofs Go.Shelf Go.RowKit Go.Sort
theorem ok_join : CtrOK Tryd.prog 43 ⟨[.c (.sl .str), .c .str], 1, [.v false [.str]], fun _ x => joinF x.1 x.2⟩ := by
  refine con_ls_s ⟨_, Tryd.func43, rfl, rfl⟩ ?_
  intro j l t b hb A c w h1 h2 h3
  have hb : joinF l t = some b := hb
  unfold joinF at hb
  split at hb
  · rename_i hn
    injection hb with hb
    subst hb
    cases l with
    | nil =>
      refine (Any.strings_Join_none Tryd.lays156 Tryd.Builder_Extra_156 A c t w).mono ?_
      rintro e w' ⟨rfl, rfl⟩
      exact ⟨rfl, Below.refl _ _⟩
    | cons x r =>
      obtain ⟨b, o, rfl, hlt, hcell⟩ := h3 (by simp)
      exact Any.strings_Join Tryd.lays156 Tryd.Builder_Extra_156 b o c (x :: r) t w hcell hlt hn.1 h1 hn.2
  · cases hb
theorem below_grow (w : World) (k : Nat) (os : Array Obj) : Below w.heap.size w (grow (w.drewN k) os) :=
  ⟨rfl, rfl, rfl, by show w.heap.size ≤ (w.heap ++ os).size; simp, fun i hi => by show (w.heap ++ os)[i]? = w.heap[i]?; rw [Array.getElem?_append_left hi]⟩
theorem ok_itoa : CtrOK Tryd.prog 41 ⟨[.c (.int .i64)], 1, [.v false [.str]], fun _ => itoaF⟩ := by
  refine con_i_s ⟨_, Tryd.func41, rfl, rfl⟩ ?_
  intro j n b hb base G w0 w hp ν hT hm
  have hb : itoaF n = some b := hb
  unfold itoaF at hb
  split at hb
  · rename_i hn
    injection hb with hb
    subst hb
    refine (Any.strconv_Itoa Tryd.laysM171 n hn.1 hn.2 w (tabs_pow (tabs_now hT hm) (by kernel_rfl))).mono ?_
    rintro e w' ⟨rfl, k, os, rfl⟩
    exact ⟨rfl, below_grow w k os⟩
  · cases hb
end Go.Sx
