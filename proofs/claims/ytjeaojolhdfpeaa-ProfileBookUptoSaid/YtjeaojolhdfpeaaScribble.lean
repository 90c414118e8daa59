/- scribble: a profile is written over; what is not in its blocks stands. Of the rows it is said only that they are there and are big enough. -/
import Derived.Test.YtjeaojolhdfpeaaBookX
namespace Go.Proofs.Ytjeaojolhdfpeaa.Scribble
open Go.RowKit Go.Proofs.YtjeaojolhdfpeaaW.PrintWords Go.Proofs.YtjeaojolhdfpeaaW.PrintLast Go.Proofs.YtjeaojolhdfpeaaW.PrintMore
open Go.Proofs.Ytjeaojolhdfpeaa.PProfileBook
set_option linter.unusedVariables false
set_option linter.unusedSimpArgs false

/-- A row of spots is there, in a block of S. -/
def There (W : World) (S : Nat → Prop) (A : Option Addr) (n : Nat) : Prop := 0 < n → ∃ g cells, A = some ⟨g, 0, none⟩ ∧ S g ∧ W.heap[g]? = some (.cells cells 28 (0, 0)) ∧ n * 4 ≤ cells.size
/-- The rows from i on, at block o. -/
structure Wild (w0 w W : World) (S : Nat → Prop) (o n i : Nat) : Prop where
  below : Below w0.heap.size w0 W
  kept : Kept w W S
  so : S o
  out : ∃ C, W.heap[o]? = some (.cells C 77 (0, 0)) ∧ n ≤ C.size ∧ ∀ k, i ≤ k → k < n → ∃ A m c, C[k]? = some (.slice A m c) ∧ m ≤ 9223372036854775807 ∧ There W S A m
theorem There.put {W : World} {S : Nat → Prop} {A : Option Addr} {n g j : Nat} {u : Value} (h : There W S A n) : There (W.setCell ⟨g, j, none⟩ u) S A n := by
  intro hn
  obtain ⟨g', cells, e, hs, hb, hl⟩ := h hn
  by_cases hg : g' = g
  · subst hg
    exact ⟨g', _, e, hs, blk_set hb j u, by simpa using hl⟩
  · exact ⟨g', cells, e, hs, blk_far hb (p := ⟨g, j, none⟩) hg u, hl⟩
/-- A spot's cell is written. -/
theorem Wild.inner {w0 w W : World} {S : Nat → Prop} {o n i g j : Nat} {cells : Array Value} {u : Value} (h : Wild w0 w W S o n i) (hS : S g) (hb : W.heap[g]? = some (.cells cells 28 (0, 0))) (hbase : ∀ k, S k → w0.heap.size ≤ k) : Wild w0 w (W.setCell ⟨g, j, none⟩ u) S o n i := by
  obtain ⟨C, hC, hn, hk⟩ := h.out
  have hne : o ≠ g := blk_ne hC hb (by decide)
  exact ⟨below_set h.below (hbase g hS), h.kept.setCell (p := ⟨g, j, none⟩) (.inl hS) u, h.so, C, blk_far hC (p := ⟨g, j, none⟩) hne u, hn, fun k h1 h2 => by
    obtain ⟨A, m, c, e, hm, ht⟩ := hk k h1 h2
    exact ⟨A, m, c, e, hm, ht.put⟩⟩
/-- The row at i is struck. -/
theorem Wild.struck {w0 w W : World} {S : Nat → Prop} {o n i : Nat} {u : Value} (h : Wild w0 w W S o n i) (hbase : ∀ k, S k → w0.heap.size ≤ k) : Wild w0 w (W.setCell ⟨o, i, none⟩ u) S o n (i + 1) := by
  obtain ⟨C, hC, hn, hk⟩ := h.out
  exact ⟨below_set h.below (hbase o h.so), h.kept.setCell (p := ⟨o, i, none⟩) (.inl h.so) u, h.so, _, blk_set hC i u, by simpa using hn, fun k h1 h2 => by
    obtain ⟨A, m, c, e, hm, ht⟩ := hk k (by omega) h2
    exact ⟨A, m, c, by rw [Array.getElem?_setIfInBounds_ne (by omega)]; exact e, hm, ht.put⟩⟩
theorem Wild.alloc {w0 w W : World} {S : Nat → Prop} {o n i : Nat} (h : Wild w0 w W S o n i) (x : Obj) : Wild w0 w (W.alloc x) S o n i := by
  obtain ⟨C, hC, hn, hk⟩ := h.out
  exact ⟨below_alloc h.below x, h.kept.alloc x, h.so, C, blk_alloc hC x, hn, fun k h1 h2 => by
    obtain ⟨A, m, c, e, hm, ht⟩ := hk k h1 h2
    exact ⟨A, m, c, e, hm, fun hp => by
      obtain ⟨g, cells, e1, hs, hb, hl⟩ := ht hp
      exact ⟨g, cells, e1, hs, blk_alloc hb x, hl⟩⟩⟩
theorem info28s : (Try.prog.info? 28).map (fun i => (i.zero, i.size, i.bytes)) = some (some (.agg #[(.int .i64 0), (.int .u16 0), (.int .u16 0), (.int .i64 0)]), 4, 24) := by kernel_rfl
set_option maxHeartbeats 8000000 in
set_option maxRecDepth 100000 in
theorem scribble (o n c : Nat) (S : Nat → Prop) (w0 w : World) (h : Wild w0 w w S o n 0) (hbase : ∀ k, S k → w0.heap.size ≤ k) (hn : n ≤ 9223372036854775807) :
    Calls Try.prog 26 #[.agg #[.slice (some ⟨o, 0, none⟩) n c]] w fun e w' => e = .returned (.tuple #[]) ∧ Below w0.heap.size w0 w' ∧ Kept w w' S := by
  have H := Aside0.mk (h.alloc (.cells #[.slice (some ⟨o, 0, none⟩) n c] 24))
  have BB : Aside0 ((w.alloc (.cells #[.slice (some ⟨o, 0, none⟩) n c] 24)).heap[w.heap.size]? = some (.cells #[.slice (some ⟨o, 0, none⟩) n c] 24 (0, 0))) := ⟨blk_new _ _⟩
  obtain ⟨i0, hi0, hi1, hi2, hi3⟩ := info_parts info28s
  have HBase := Aside0.mk hbase
  clear h hbase
  go_enter Try.func26, Try.ntmps26
  go_wp2_with fail
  generalize w.alloc (.cells #[.slice (some ⟨o, 0, none⟩) n c] 24) = W at H BB ⊢
  go_loopw [2] (fun i wr => ∃ k : Nat, k ≤ n ∧ i = .int .i64 k ∧ Aside0 (Wild w0 w wr S o n k) ∧ Aside0 (wr.heap[w.heap.size]? = some (.cells #[.slice (some ⟨o, 0, none⟩) n c] 24 (0, 0)))) (fun i _ => n - (intOf i).toNat)
  case atStart => exact ⟨0, by omega, rfl, H, BB⟩
  case round =>
    clear H BB
    obtain ⟨k, hk, rfl, H, BB⟩ := hrel
    have hb0 : wr.cell? ⟨w.heap.size, 0, none⟩ = some (.slice (some ⟨o, 0, none⟩) n c) := (blk_cell BB.out 0).trans rfl
    by_cases hlt : k < n
    · obtain ⟨C, hC, hCn, hCk⟩ := H.out.out
      obtain ⟨A, m, c2, hck, hmm, hth⟩ := hCk k (Nat.le_refl _) hlt
      have hok : wr.cell? ⟨o, k, none⟩ = some (.slice A m c2) := (blk_cell hC k).trans hck
      have HO := Aside0.mk (show ∃ C, wr.heap[o]? = some (.cells C 77 (0, 0)) ∧ C[k]? = some (.slice A m c2) from ⟨C, hC, hck⟩)
      have HT := Aside0.mk hth
      clear hC hCn hCk hck hth
      go_wp2_with fail
      go_loopw [3] (fun i wi => ∃ j : Nat, j ≤ m ∧ i = .int .i64 j ∧ Aside0 (Wild w0 w wi S o n k) ∧ Aside0 (wi.heap[w.heap.size]? = some (.cells #[.slice (some ⟨o, 0, none⟩) n c] 24 (0, 0))) ∧ Aside0 (∃ C, wi.heap[o]? = some (.cells C 77 (0, 0)) ∧ C[k]? = some (.slice A m c2)) ∧ Aside0 (There wi S A m)) (fun i _ => m - (intOf i).toNat)
      case atStart => exact ⟨0, by omega, rfl, H, BB, HO, HT⟩
      case round =>
        clear H BB HO HT hok hb0
        obtain ⟨j, hj, rfl, H, BB, HO, HT⟩ := hrel
        have hb0 : wr.cell? ⟨w.heap.size, 0, none⟩ = some (.slice (some ⟨o, 0, none⟩) n c) := (blk_cell BB.out 0).trans rfl
        obtain ⟨C, hC, hck⟩ := HO.out
        have hok : wr.cell? ⟨o, k, none⟩ = some (.slice A m c2) := (blk_cell hC k).trans hck
        have hof := blk_frozen hC k
        by_cases hjm : j < m
        · obtain ⟨g, cells, rfl, hS, hb, hl⟩ := HT.out (by omega)
          have hx0 : wr.cell? ⟨g, j * 4, none⟩ = some cells[j * 4] := (blk_cell hb _).trans (Array.getElem?_eq_getElem (by omega))
          have hx1 : wr.cell? ⟨g, j * 4 + 1, none⟩ = some cells[j * 4 + 1] := (blk_cell hb _).trans (Array.getElem?_eq_getElem (by omega))
          have hf0 := blk_frozen hb (j * 4)
          have hf1 := blk_frozen hb (j * 4 + 1)
          have hne1 : o ≠ g := blk_ne hC hb (by decide)
          have hne2 : w.heap.size ≠ g := blk_ne BB.out hb (by decide)
          have H1 := Aside0.mk (H.out.inner (j := j * 4) (u := .int .i64 77) hS hb HBase.out)
          have H2 := Aside0.mk (H1.out.inner (j := j * 4 + 1) (u := .int .u16 99) hS (blk_set hb (j * 4) (.int .i64 77)) HBase.out)
          have BB2 := Aside0.mk (blk_far (blk_far BB.out (p := ⟨g, j * 4, none⟩) hne2 (.int .i64 77)) (p := ⟨g, j * 4 + 1, none⟩) hne2 (.int .u16 99))
          have HO2 := Aside0.mk (show ∃ C, ((wr.setCell ⟨g, j * 4, none⟩ (.int .i64 77)).setCell ⟨g, j * 4 + 1, none⟩ (.int .u16 99)).heap[o]? = some (.cells C 77 (0, 0)) ∧ C[k]? = some (.slice (some ⟨g, 0, none⟩) m c2) from ⟨C, blk_far (blk_far hC (p := ⟨g, j * 4, none⟩) hne1 _) (p := ⟨g, j * 4 + 1, none⟩) hne1 _, hck⟩)
          have HT2 := Aside0.mk ((HT.out.put (g := g) (j := j * 4) (u := .int .i64 77)).put (g := g) (j := j * 4 + 1) (u := .int .u16 99))
          clear H1 hC hck hb
          go_wp2_with fail
          go_roundw
          case rel => exact ⟨j + 1, by omega, by go_num, H2, BB2, HO2, HT2⟩
          case measure => simp [intOf]; omega
        · have hne3 : w.heap.size ≠ o := blk_ne BB.out hC (by decide)
          have H2 := Aside0.mk (H.out.struck (u := .slice none 0 0) HBase.out)
          have BB2 := Aside0.mk (blk_far BB.out (p := ⟨o, k, none⟩) hne3 (.slice none 0 0))
          clear hC hck
          go_wp2_with fail
          go_roundw
          case rel => exact ⟨k + 1, by omega, by go_num, H2, BB2⟩
          case measure => simp [intOf]; omega
    · go_wp2
      go_end0
      exact ⟨rfl, H.out.below, H.out.kept⟩
end Go.Proofs.Ytjeaojolhdfpeaa.Scribble
