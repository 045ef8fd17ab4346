/- One operation that calls nobody, whichever. -/
import Derived.Test.YtkcfdkfdmglamaaSyI
import Derived.Laws.IdiomStrings
set_option linter.unusedVariables false
set_option linter.unusedSimpArgs false
namespace Go.Sx
open Go.RowKit (wrap64)
section
variable {P : Program} {base : Nat} {G : Nat → Prop} {w0 w : World} {hp : Hp} {ν : Nat → Value} {ρ : Operand → Value} {e : Operand → SV} {o : Oper}
theorem VRel.ptr {n off : Nat} {v : Value} (h : VRel hp ν (.a false [.ptr n off]) v) : hp n ≠ .free ∧ ∃ g, ν n = .pointer (some ⟨g, 0, none⟩) ∧ v = .pointer (some ⟨g, off, none⟩) := by
  obtain ⟨z, hz, h⟩ := h; injection hz with hz _; subst hz; exact h
theorem VRel.ep {n sz off : Nat} {i : Int} {v : Value} (h : VRel hp ν (.a false [.ep n sz i off]) v) : hp n ≠ .free ∧ ∃ A l c, ν n = .slice (some A) l c ∧ v = .pointer (some (A.add (i.toNat * sz + off))) ∧ 0 ≤ i ∧ i < (l : Int) := by
  obtain ⟨z, hz, h⟩ := h; injection hz with hz _; subst hz; exact h
theorem good_index {t : TypeId} {x i : Operand} {el : TypeId} {n m : Nat} {j : Int} {k : IntKind} {ty : Ty} {l : List ty.T} {e' : TypeId} (ho : o.op = .indexAddr t x i) (hu : sliceOf P t = some el) (hx : VRel hp ν (.a false [.sl n]) (ρ x)) (hi : VRel hp ν (.a false [.int k j]) (ρ i)) (hs : szOf P el = some m)
    (hen : hp n = .row ty l e' ∨ hp n = .ro ty l e' ∨ hp n = .ex ty l e') (h0 : 0 ≤ j) (h1 : j < (l.length : Int)) (hm : Mem base G w0 w hp ν) : Good P base G w0 hp ν ρ o w (one (.ep n m j 0)) hp := by
  obtain ⟨hnf, hxv, _⟩ := hx.sl
  obtain ⟨A, c, hv, _, _, hr⟩ := (ent_reads hen (hm.ent n)).out
  have hl : l ≠ [] := fun e => by subst e; simp at h1; omega
  obtain ⟨a, rfl, _⟩ := hr hl
  have hrun := indexAt_run (P := P) (w := w) (A := a) (L := l.length) (c := c) (k := k) (sliceOf_some hu) hs h0 h1
  rw [← hv, ← hxv, ← hi.int] at hrun
  refine good_same (u := .pointer (some (a.add (j.toNat * m)))) ?_ ⟨_, rfl, hnf, a, _, _, hv, by simp, h0, h1⟩ hm
  unfold execOp
  rw [ho]
  simp [hrun]
theorem byl_len (s : ByteArray) : (byl s).length = s.size := by simp [byl]
/-- The bytes of a text, in memory of their own. -/
theorem good_bytes {src d el : TypeId} {x : Operand} {s : ByteArray} {nm : Nat} (ho : o.op = .convert src d x) (hx : ρ x = .string s) (hs : P.underlying src = some .string) (hd : P.underlying d = some (.slice el)) (hel : P.underlying el = some (.int .u8)) (hn : hp nm = .free) (hlen : s.size ≤ maxLen)
    (hm : Mem base G w0 w hp ν) : Good P base G w0 hp ν ρ o w (one (.sl nm)) (upd hp nm (.ex (.int .u8) (byl s : List Int) el)) := by
  have hrun := run_bytes_of_string (P := P) w src d el s hs hd hel
  have hge := grownCap_ge w s.size 0 el
  generalize grownCap w s.size 0 el = cap at hrun hge
  have hvs : (bytesRow s cap).size = cap := by
    unfold bytesRow
    simp
    have : s.data.size = s.size := rfl
    omega
  have hbl : (byl s).length = s.size := byl_len s
  have hmem := hm.new (w' := w.drew.alloc (.cells (bytesRow s cap) el ((bytesRow s cap).size, (bytesRow s cap).size + 1))) hn (e := .ex (.int .u8) (byl s : List Int) el) (v := .slice (some ⟨w.heap.size, 0, none⟩) s.size cap) rfl rfl rfl (by simp) (fun k hk => heap_alloc_old w.drew _ k hk)
    (fun g hg => by simp [blk] at hg; omega) (.inr ⟨w.heap.size, 0, cap, _, el, _, congrArg (fun q => Value.slice (some ⟨w.heap.size, 0, none⟩) q cap) hbl.symm, Nat.le_trans (Nat.le_of_eq hbl) hge, Nat.le_trans (Nat.le_of_eq hbl) hlen, heap_alloc_new w.drew _, ?_, .inr (Nat.le_refl _), fun j u hu => ?_⟩) (by simp)
  · refine ⟨.slice (some ⟨w.heap.size, 0, none⟩) s.size cap, _, _, .inl ?_, ?_, hmem.1, hmem.2⟩
    · unfold execOp
      rw [ho]
      simp only [Sem.run_bind, hx, hrun, Result.andThen_ok]
      rfl
    · exact ⟨_, rfl, by rw [upd_same]; simp, by rw [upd_same], _, _, _, rfl⟩
  · rw [hvs]
    exact Nat.le_trans (Nat.le_of_eq (by rw [Nat.zero_add]; exact (Nat.mul_one _).trans hbl)) hge
  · have e := flat_u8 (byl s)
    have hu : ((Ty.int .u8).flat (byl s : List Int))[j]? = some u := hu
    rw [e, List.getElem?_map] at hu
    unfold byl at hu
    rw [List.getElem?_map] at hu
    rw [Nat.zero_add]
    unfold bytesRow
    cases hb : s.data.toList[j]? with
    | none => rw [hb] at hu; simp at hu
    | some y =>
      rw [hb] at hu
      simp only [Option.map_some, Option.some.injEq] at hu
      have hj : j < s.data.size := by
        have := (List.getElem?_eq_some_iff.1 hb).1
        simpa using this
      rw [Array.getElem?_append_left (by simpa using hj)]
      have hb2 : s.data[j]? = some y := by simpa using hb
      simp [hb2, hu]
theorem opA_sound {av : Av} {nm : Nat} {cs : List SB} {v : SV} {hp' : Hp} (h : opA P av o.op e nm hp = some (cs, v, hp')) (hc : ∀ s ∈ cs, s.b = true) (he : ∀ x, VRel hp ν (e x) (ρ x)) (hm : Mem base G w0 w hp ν) :
    Good P base G w0 hp ν ρ o w v hp' := by
  generalize ho : o.op = op at h
  cases op
  case move x =>
    simp only [opA, Option.some.injEq, Prod.mk.injEq] at h
    obtain ⟨rfl, rfl, rfl⟩ := h
    exact good_same (by unfold execOp; rw [ho]; rfl) (he x) hm
  case assign x =>
    simp only [opA, Option.some.injEq, Prod.mk.injEq] at h
    obtain ⟨rfl, rfl, rfl⟩ := h
    exact good_same (by unfold execOp; rw [ho]; rfl) (he x) hm
  case alloc t =>
    simp only [opA] at h
    split at h
    · rename_i g cs' hz
      obtain ⟨hn, rfl, rfl, rfl⟩ := mk_some h
      exact good_alloc ho hz hn hm
    · simp at h
  case box t x =>
    simp only [opA] at h
    split at h
    · rename_i g cs' hx
      obtain ⟨hn, rfl, rfl, rfl⟩ := mk_some h
      have := he x
      rw [hx] at this
      exact good_boxed ho this hn hm
    · simp at h
  case build t ps =>
    simp only [opA] at h
    split at h
    · rename_i z hz
      split at h
      · rename_i pl hpl
        split at h
        · rename_i cs' hf
          simp only [Option.some.injEq, Prod.mk.injEq] at h
          obtain ⟨rfl, rfl, rfl⟩ := h
          exact good_build ho hz hpl hf he hm
        · simp at h
      · simp at h
    · simp at h
  case buildSlice t len ps =>
    simp only [opA] at h
    split at h
    · rename_i el hu
      split at h
      · rename_i ty hty
        split at h
        · rename_i xs hr
          split at h
          · rename_i zg hz
            cases hb : (Nat.beq xs.length len && Nat.ble (len * ty.size) 16777216) with
            | false => rw [hb] at h; simp at h
            | true =>
              rw [hb] at h
              rw [Bool.and_eq_true] at hb
              obtain ⟨hn, rfl, rfl, rfl⟩ := mk_some h
              exact good_rowS ho hu hty hr hz (Nat.eq_of_beq_eq_true hb.1) (Nat.le_of_ble_eq_true hb.2) hn he hm
          · simp at h
        · simp at h
      · simp at h
    · simp at h
  case load t x =>
    simp only [opA] at h
    exact (good_load ho h (he x) hm).1
  case store t x y =>
    simp only [opA] at h
    exact (good_store ho h he hm).1
  case nilCheck x =>
    simp only [opA] at h
    split at h
    · rename_i n off hx
      simp only [Option.some.injEq, Prod.mk.injEq] at h
      obtain ⟨rfl, rfl, rfl⟩ := h
      have := he x
      rw [hx] at this
      obtain ⟨hnf, g, hg, hxv⟩ := this.ptr
      refine good_same (u := .pointer (some ⟨g, off, none⟩)) ?_ ⟨_, rfl, hnf, g, hg, rfl⟩ hm
      unfold execOp
      rw [ho]
      simp only [hxv]
      rfl
    · simp at h
  case binOp op t x y t' =>
    simp only [opA] at h
    split at h
    · rename_i c v' hb
      simp only [Option.some.injEq, Prod.mk.injEq] at h
      obtain ⟨rfl, rfl, rfl⟩ := h
      exact good_bin ho hb hc he hm
    · split at h
      · rename_i s hs
        simp only [Option.some.injEq, Prod.mk.injEq] at h
        obtain ⟨rfl, rfl, rfl⟩ := h
        exact (good_eq ho (by assumption) he hm).1 rfl
      · rename_i s hs
        simp only [Option.some.injEq, Prod.mk.injEq] at h
        obtain ⟨rfl, rfl, rfl⟩ := h
        exact (good_eq ho (by assumption) he hm).2 rfl
      · simp at h
  case unOp op t x =>
    simp only [opA] at h
    split at h
    · rename_i v' hv
      simp only [Option.some.injEq, Prod.mk.injEq] at h
      obtain ⟨rfl, rfl, rfl⟩ := h
      exact good_un ho hv he hm
    · simp at h
  case convert s d x =>
    simp only [opA] at h
    split at h
    · rename_i k0 k k1 n hs hd hx
      simp only [Option.some.injEq, Prod.mk.injEq] at h
      obtain ⟨rfl, rfl, rfl⟩ := h
      have := he x
      rw [hx] at this
      refine good_same (u := .int k (wr k n)) ?_ ⟨_, rfl, rfl⟩ hm
      unfold execOp
      rw [ho]
      simp [convert, run_underlying hs, run_underlying hd, this.int, Conv.intToInt, wr_eq]
    · rename_i el x' hs hd hx
      split at h
      · rename_i hel
        split at h
        · rename_i l hl
          simp only [Option.some.injEq, Prod.mk.injEq] at h
          obtain ⟨rfl, rfl, rfl⟩ := h
          have := he x
          rw [hx] at this
          obtain ⟨z, hz, hr⟩ := this
          injection hz with hz _
          subst hz
          have hrd := readL_rel hl hr hm
          refine good_same (u := .string (bstr l)) ?_ ⟨_, rfl, rfl⟩ hm
          obtain ⟨A, c, hv, _⟩ := hrd.out
          have hb := run_bstr (P := P) (w := w) hrd
          have hcv := run_convert_bytes_string (P := P) w s d el A l.length c hs hel hd
          unfold execOp
          rw [ho]
          simp only [Sem.run_bind]
          rw [hv] at hb ⊢
          rw [hcv, hb]
          rfl
        · simp at h
      · simp at h
    · rename_i el s' hs hd hx
      split at h
      case h_2 => simp at h
      rename_i hel hfr
      simp only [Option.some.injEq, Prod.mk.injEq] at h
      obtain ⟨rfl, rfl, rfl⟩ := h
      have hlen := hc (.le (s'.size : Int) 9223372036854775807) (by simp)
      simp only [SB.b, decide_eq_true_eq] at hlen
      have hxs := he x
      rw [hx] at hxs
      have hxv := hxs.str
      exact good_bytes ho hxv hs hd hel hfr (by simp only [maxLen]; omega) hm
    · simp at h
  case extract x i =>
    simp only [opA] at h
    split at h
    · rename_i xs hx
      split at h
      · rename_i g cs' hg
        simp only [Option.some.injEq, Prod.mk.injEq] at h
        obtain ⟨rfl, rfl, rfl⟩ := h
        have := he x
        rw [hx] at this
        obtain ⟨vs, hv, hr⟩ := this
        obtain ⟨u, hu, hua⟩ := hr.get hg
        refine good_same (u := u) ?_ hua hm
        have hu' : vs[i]? = some u := by simpa using hu
        unfold execOp
        rw [ho]
        simp [hv, Instr.extract, hu']
      · simp at h
    · simp at h
  case field t x f =>
    simp only [opA] at h
    split at h
    · rename_i cs' off ft hx hf
      split at h
      · rename_i v' hv
        simp only [Option.some.injEq, Prod.mk.injEq] at h
        obtain ⟨rfl, rfl, rfl⟩ := h
        have := he x
        rw [hx] at this
        obtain ⟨vs, hxv, hr⟩ := this
        obtain ⟨fs, fd, hu, hfd, rfl, rfl⟩ := fieldOf_some hf
        obtain ⟨u, hpu, hvu⟩ := part_run (P := P) (w := w) hv hr
        refine good_same (u := u) ?_ hvu hm
        unfold execOp
        rw [ho]
        simp [hxv, Instr.field, run_underlying hu, hfd, asAgg, hpu]
      · simp at h
    · simp at h
  case fieldAddr t x f =>
    simp only [opA] at h
    split at h
    · rename_i off ft hf
      split at h
      · rename_i n hs
        split at h
        · rename_i n' o' hx
          simp only [Option.some.injEq, Prod.mk.injEq] at h
          obtain ⟨rfl, rfl, rfl⟩ := h
          have := he x
          rw [hx] at this
          obtain ⟨hnf, g, hg, hxv⟩ := this.ptr
          have hrun := fieldAt_run (P := P) (w := w) (a := ⟨g, o', none⟩) hf hs
          refine good_same (u := .pointer (some ⟨g, o' + off, none⟩)) ?_ ⟨_, rfl, hnf, g, hg, rfl⟩ hm
          unfold execOp
          rw [ho]
          simp [hxv, hrun, Addr.add_mid]
        · rename_i n' sz i o' hx
          simp only [Option.some.injEq, Prod.mk.injEq] at h
          obtain ⟨rfl, rfl, rfl⟩ := h
          have := he x
          rw [hx] at this
          obtain ⟨hnf, A, L, c, hg, hxv, h0, h1⟩ := this.ep
          have hrun := fieldAt_run (P := P) (w := w) (a := A.add (i.toNat * sz + o')) hf hs
          refine good_same (u := .pointer (some (A.add (i.toNat * sz + (o' + off))))) ?_ ⟨_, rfl, hnf, A, L, c, hg, rfl, h0, h1⟩ hm
          unfold execOp
          rw [ho]
          simp only [hxv, Sem.run_bind, hrun, Result.andThen_ok, Addr.add_add, Nat.add_assoc]
          rfl
        · simp at h
      · simp at h
    · simp at h
  case index t x i =>
    simp only [opA] at h
    split at h
    · rename_i s k n hu hx hi
      simp only [Option.some.injEq, Prod.mk.injEq] at h
      obtain ⟨rfl, rfl, rfl⟩ := h
      have h1 := he x
      rw [hx] at h1
      have h2 := he i
      rw [hi] at h2
      have c1 := hc (.le 0 n) (by simp)
      have c2 := hc (.lt n (s.size : Int)) (by simp)
      simp only [SB.b, decide_eq_true_eq] at c1 c2
      have hlt : n.toNat < s.size := by omega
      refine good_same (u := .int .u8 (byt s n)) ?_ ⟨_, rfl, rfl⟩ hm
      unfold execOp
      rw [ho]
      have hget : s[n.toNat]? = some (s[n.toNat]'hlt) := getElem?_pos s n.toNat hlt
      simp [h1.str, h2.int, Instr.index, asIntOf, run_underlying hu, c1, hget, byt, hlt]
    · simp at h
  case indexAddr t x i =>
    simp only [opA] at h
    split at h
    · rename_i el n k j hu hx hi
      split at h
      · rename_i m hs
        have h1 := he x
        rw [hx] at h1
        have h2 := he i
        rw [hi] at h2
        split at h
        · rename_i ty l e' hen
          cases hb : (rdOk av n && Nat.beq m ty.size) with
          | false => rw [hb] at h; simp at h
          | true =>
            rw [hb] at h
            simp only [cnd_true, Option.some.injEq, Prod.mk.injEq] at h
            obtain ⟨rfl, rfl, rfl⟩ := h
            have c1 := hc (.le 0 j) (by simp)
            have c2 := hc (.lt j (l.length : Int)) (by simp)
            simp only [SB.b, decide_eq_true_eq] at c1 c2
            exact good_index ho hu h1 h2 hs (.inl hen) c1 c2 hm
        · rename_i ty l e' hen
          cases hb : Nat.beq m ty.size with
          | false => rw [hb] at h; simp at h
          | true =>
            rw [hb] at h
            simp only [cnd_true, Option.some.injEq, Prod.mk.injEq] at h
            obtain ⟨rfl, rfl, rfl⟩ := h
            have c1 := hc (.le 0 j) (by simp)
            have c2 := hc (.lt j (l.length : Int)) (by simp)
            simp only [SB.b, decide_eq_true_eq] at c1 c2
            exact good_index ho hu h1 h2 hs (.inr (.inl hen)) c1 c2 hm
        · rename_i ty l e' hen
          cases hb : (rdOk av n && Nat.beq m ty.size) with
          | false => rw [hb] at h; simp at h
          | true =>
            rw [hb] at h
            simp only [cnd_true, Option.some.injEq, Prod.mk.injEq] at h
            obtain ⟨rfl, rfl, rfl⟩ := h
            have c1 := hc (.le 0 j) (by simp)
            have c2 := hc (.lt j (l.length : Int)) (by simp)
            simp only [SB.b, decide_eq_true_eq] at c1 c2
            exact good_index ho hu h1 h2 hs (.inr (.inr hen)) c1 c2 hm
        · simp at h
      · simp at h
    · simp at h
  case slice t x lo hi mx =>
    cases mx with
    | some y => simp [opA] at h
    | none =>
      simp only [opA] at h
      exact good_slice ho h hc he hm
  case makeSlice t n c =>
    simp only [opA] at h
    split at h
    · rename_i ka a kb b hn hcc
      have h1 := he n
      rw [hn] at h1
      have h2 := he c
      rw [hcc] at h2
      split at h
      · rename_i el hu
        split at h
        · rename_i ty by_ hty hby
          split at h
          · rename_i hf
            split at h
            · rename_i zg z hz
              split at h
              · rename_i hzE
                cases hb : Nat.blt 0 by_ with
                | false => rw [hb] at h; simp at h
                | true =>
                  rw [hb] at h
                  simp only [cnd_true, Option.some.injEq, Prod.mk.injEq] at h
                  obtain ⟨rfl, rfl, rfl⟩ := h
                  have c1 := hc (.eq a b) (by simp)
                  have c2 := hc (.le 0 a) (by simp)
                  have c3 := hc (.le (a * by_) 140737488355328) (by simp)
                  simp only [SB.b, decide_eq_true_eq] at c1 c2 c3
                  exact good_make ho h1 h2 hu hty hby hf hz hzE hb c1 c2 c3 hm
              · simp at h
            · simp at h
          · simp at h
        · simp at h
      · simp at h
    · simp at h
  case call c =>
    obtain ⟨callee, as, ts⟩ := c
    cases callee with
    | value f => simp [opA] at h
    | invoke r m => simp [opA] at h
    | builtin b =>
      simp only [opA] at h
      have run : ∀ u, (∀ (w' : World), True) → ((builtin b ts o.type (as.map fun | .const _ => true | _ => false) (as.map ρ)).run P w = .ok (.value u) w) → (execOp ρ o).run P w = .ok (.value u) w := by
        intro u _ hr
        unfold execOp
        simp only [ho, resolve, invoke, Sem.run_bind, Sem.run_pure, Result.andThen_ok]
        exact hr
      have hargs : ∀ (j : Nat) (x : SV), (as.toList.map e)[j]? = some x → ∃ v, (as.map ρ).toList[j]? = some v ∧ VRel hp ν x v := by
        intro j x hj
        simp only [List.getElem?_map, Option.map_eq_some_iff] at hj
        obtain ⟨p, hp1, rfl⟩ := hj
        exact ⟨ρ p, by simp only [Array.toList_map, List.getElem?_map, hp1, Option.map_some], he p⟩
      unfold builtinA at h
      split at h
      · rename_i x hx
        split at h
        case h_2 => simp at h
        rename_i t ht
        split at h
        case h_2 => simp at h
        rename_i n hn
        simp only [Option.some.injEq, Prod.mk.injEq] at h
        obtain ⟨rfl, rfl, rfl⟩ := h
        obtain ⟨u, hu, hux⟩ := hargs 0 x (by rw [hx]; rfl)
        have hlen : as.size = 1 := by have := congrArg List.length hx; simpa using this
        have has : as.map ρ = #[u] := by
          apply Array.ext'
          have hl : (as.map ρ).toList.length = 1 := by simp [hlen]
          match hq : (as.map ρ).toList, hl with
          | [a], _ => rw [hq] at hu; simp at hu; rw [hu]
        have hts : ts = #[t] := Array.ext' ht
        refine good_same (u := .int .i64 n) (run _ (fun _ => trivial) ?_) ⟨_, rfl, rfl⟩ hm
        have := lenA_run (P := P) (w := w) hn hux hm o.type
        rw [has, hts]
        simp [builtin, this]
      · rename_i k a r hx
        split at h
        case h_2 => simp at h
        rename_i n hn
        simp only [Option.some.injEq, Prod.mk.injEq] at h
        obtain ⟨rfl, rfl, rfl⟩ := h
        refine good_same (u := .int k n) (run _ (fun _ => trivial) ?_) ⟨_, rfl, rfl⟩ hm
        obtain ⟨u, hu, hux⟩ := hargs 0 (.a false [.int k a]) (by rw [hx]; rfl)
        have hu2 := hux.int
        subst hu2
        obtain ⟨vs, hvs⟩ : ∃ vs, (as.map ρ).toList = .int k a :: vs := by
          match hq : (as.map ρ).toList with
          | [] => rw [hq] at hu; simp at hu
          | y :: ys => rw [hq] at hu; simp at hu; exact ⟨ys, by rw [hu]⟩
        have hl : r.length = vs.length := by
          have h1 := congrArg List.length hx
          have h2 := congrArg List.length hvs
          simp at h1 h2
          omega
        have hf := foldI_run (P := P) (w := w) (hp := hp) (ν := ν) (f := mn) (g := Builtin.min2) (k := k) (fun a b => rfl) r vs a n hn hl (fun j x hj => by
          obtain ⟨u, hu, hux⟩ := hargs (j + 1) x (by rw [hx]; simpa using hj)
          exact ⟨u, by rw [hvs] at hu; simpa using hu, hux⟩)
        simp only [builtin, Builtin.min_, hvs, Sem.run_bind, hf, Result.andThen_ok]
        rfl
      · rename_i k a r hx
        split at h
        case h_2 => simp at h
        rename_i n hn
        simp only [Option.some.injEq, Prod.mk.injEq] at h
        obtain ⟨rfl, rfl, rfl⟩ := h
        refine good_same (u := .int k n) (run _ (fun _ => trivial) ?_) ⟨_, rfl, rfl⟩ hm
        obtain ⟨u, hu, hux⟩ := hargs 0 (.a false [.int k a]) (by rw [hx]; rfl)
        have hu2 := hux.int
        subst hu2
        obtain ⟨vs, hvs⟩ : ∃ vs, (as.map ρ).toList = .int k a :: vs := by
          match hq : (as.map ρ).toList with
          | [] => rw [hq] at hu; simp at hu
          | y :: ys => rw [hq] at hu; simp at hu; exact ⟨ys, by rw [hu]⟩
        have hl : r.length = vs.length := by
          have h1 := congrArg List.length hx
          have h2 := congrArg List.length hvs
          simp at h1 h2
          omega
        have hf := foldI_run (P := P) (w := w) (hp := hp) (ν := ν) (f := mx) (g := Builtin.max2) (k := k) (fun a b => rfl) r vs a n hn hl (fun j x hj => by
          obtain ⟨u, hu, hux⟩ := hargs (j + 1) x (by rw [hx]; simpa using hj)
          exact ⟨u, by rw [hvs] at hu; simpa using hu, hux⟩)
        simp only [builtin, Builtin.max_, hvs, Sem.run_bind, hf, Result.andThen_ok]
        rfl
      · rename_i s x hx
        split at h
        case h_2 => simp at h
        rename_i t t' ht
        cases hb : Nat.beq t t' with
        | false => rw [hb] at h; simp at h
        | true =>
          rw [hb] at h
          simp only [cnd_true] at h
          have htt := Nat.eq_of_beq_eq_true hb
          subst htt
          have hts : ts = #[t, t] := Array.ext' ht
          obtain ⟨ps, px, has, rfl, rfl⟩ : ∃ ps px, as.toList = [ps, px] ∧ s = e ps ∧ x = e px := by
            match hq : as.toList with
            | [a, b] => rw [hq] at hx; simp at hx; exact ⟨a, b, rfl, hx.1.symm, hx.2.symm⟩
            | [] => rw [hq] at hx; simp at hx
            | [a] => rw [hq] at hx; simp at hx
            | a :: b :: c :: r => rw [hq] at hx; simp at hx
          have has' : as = #[ps, px] := Array.ext' has
          subst hts has'
          exact good_append ho h hc he hm
      · simp at h
  all_goals (simp [opA] at h)
end
end Go.Sx
