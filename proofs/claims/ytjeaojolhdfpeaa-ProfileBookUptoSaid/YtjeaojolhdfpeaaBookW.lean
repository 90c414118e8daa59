/- Profile's book: what was lent to it, or was handed out by it, may be written over. -/
import Derived.Test.YtjeaojolhdfpeaaScribble
import Derived.Test.YtjeaojolhdfpeaaKeptQ
import Derived.Test.YtjeaojolhdfpeaaBookP
namespace Go.Proofs.Ytjeaojolhdfpeaa.BookW
open Go.RowKit Go.Proofs.YtjeaojolhdfpeaaW.PrintWords Go.Proofs.YtjeaojolhdfpeaaW.PrintLast Go.Proofs.YtjeaojolhdfpeaaW.PrintMore
open Go.Proofs.Ytjeaojolhdfpeaa.PProfileBook Go.Proofs.Ytjeaojolhdfpeaa.Scribble Go.Proofs.Ytjeaojolhdfpeaa.BookB Go.Proofs.Ytjeaojolhdfpeaa.BookP Go.Proofs.Ytjeaojolhdfpeaa.LentQ
set_option linter.unusedVariables false
set_option linter.unusedSimpArgs false

set_option maxHeartbeats 8000000 in
set_option maxRecDepth 100000 in
theorem scribble_none (A : Option Addr) (c : Nat) (w0 w : World) (S : Nat → Prop) (hB : Below w0.heap.size w0 w) :
    Calls Try.prog 26 #[.agg #[.slice A 0 c]] w fun e w' => e = .returned (.tuple #[]) ∧ Below w0.heap.size w0 w' ∧ Kept w w' S := by
  have H := Aside0.mk (below_alloc hB (.cells #[.slice A 0 c] 24))
  have BB : Aside0 ((w.alloc (.cells #[.slice A 0 c] 24)).heap[w.heap.size]? = some (.cells #[.slice A 0 c] 24 (0, 0))) := ⟨blk_new _ _⟩
  have HK := Aside0.mk ((Kept.refl w S).alloc (.cells #[.slice A 0 c] 24))
  clear hB
  go_enter Try.func26, Try.ntmps26
  go_wp2_with fail
  generalize w.alloc (.cells #[.slice A 0 c] 24) = W at H BB HK ⊢
  have hb0 : W.cell? ⟨w.heap.size, 0, none⟩ = some (.slice A 0 c) := (blk_cell BB.out 0).trans rfl
  go_loop [2] (fun i => i = .int .i64 0) (fun _ => 0)
  case atStart => rfl
  case round =>
    subst hrel
    go_wp2
    go_end0
    exact ⟨rfl, H.out, HK.out⟩
/-- A row of one's own of spots is there. -/
theorem there_of_R {W : World} {S ok : Nat → Prop} {base : Nat} {v : Value} {xs : List S28} (h : Kd.R k28 28 W base ok v xs) (hS : ∀ k, ok k → S k) : ∃ A c, v = .slice A xs.length c ∧ xs.length ≤ 9223372036854775807 ∧ There W S A xs.length := by
  obtain ⟨h1, inner, ⟨hl, ho⟩, hr⟩ := h
  rcases ho with ⟨rfl, h0⟩ | ⟨g, cap, cur, rfl, hb, hh, hc, hm, hs, ht⟩
  · exact ⟨none, 0, by rw [h0], by omega, fun hp => by omega⟩
  · refine ⟨_, _, rfl, by unfold maxLen at hm; omega, fun hp => ⟨g, cur, rfl, hS g (h1 g (by simp [Value.ownBlock])), hh, ?_⟩⟩
    have h4 : k28.sz = 4 := rfl
    rw [h4] at hs
    omega
/-- Rows of rows of one's own may be written over. -/
theorem wild_of_R {w0 W : World} {S ok : Nat → Prop} {base : Nat} {v : Value} {ls : List (List S28)} (h : Kd.R kr 77 W base ok v ls) (hS : ∀ k, ok k → S k) (hp : 0 < ls.length) (hB : Below w0.heap.size w0 W) :
    ∃ o c, v = .slice (some ⟨o, 0, none⟩) ls.length c ∧ Wild w0 W W S o ls.length 0 ∧ ls.length ≤ 9223372036854775807 := by
  obtain ⟨h1, inner, ⟨hl, ho⟩, hr⟩ := h
  rcases ho with ⟨rfl, h0⟩ | ⟨g, cap, cur, rfl, hb, hh, hc, hm, hs, ht⟩
  · omega
  · have hsz : kr.sz = 1 := rfl
    rw [hsz] at hs hl ht hr
    refine ⟨g, cap, rfl, ⟨hB, Kept.refl _ _, hS g (h1 g (by simp [Value.ownBlock])), cur, hh, by omega, fun k _ hk => ?_⟩, by unfold maxLen at hm; omega⟩
    obtain ⟨vk, hvk, hR⟩ := hr.2 k ls[k] (List.getElem?_eq_getElem hk)
    obtain ⟨A, c, e, hx, hT⟩ := there_of_R (S := S) hR (fun j hj => hS j hj.1)
    refine ⟨A, ls[k].length, c, ?_, hx, hT⟩
    subst e
    have h3 : inner[k]? = some (.slice A ls[k].length c) := by
      have := congrArg (fun l => l[0]?) hvk
      simpa [List.getElem?_take, List.getElem?_drop] using this
    rw [← ht] at h3
    rw [List.getElem?_take, if_pos (by omega)] at h3
    rw [← Array.getElem?_toList]
    exact h3
theorem scribble_any {w0 w : World} {S ok : Nat → Prop} {base : Nat} {v : Value} {ls : List (List S28)} (h : Kd.R kr 77 w base ok v ls) (hS : ∀ k, ok k → S k) (hbase : ∀ k, S k → w0.heap.size ≤ k) (hB : Below w0.heap.size w0 w) :
    Calls Try.prog 26 #[.agg #[v]] w fun e w' => e = .returned (.tuple #[]) ∧ Below w0.heap.size w0 w' ∧ Kept w w' S := by
  rcases Nat.eq_zero_or_pos ls.length with h0 | h0
  · obtain ⟨A, c, rfl⟩ := Kd.R_slice h
    rw [h0]
    exact scribble_none A c w0 w S hB
  · obtain ⟨o, c, rfl, hw, hm⟩ := wild_of_R h hS h0 hB
    exact scribble o ls.length c S w0 w hw hbase hm
/-- Rows that were lent are rows of one's own. -/
theorem kx_R {w : World} {base : Nat} {ok : Nat → Prop} {v : Value} {ls : List (List S28)} (h : Kd.R kx 77 w base ok v ls) : Kd.R kr 77 w base ok v ls := by
  refine Kd.R_imp (d := kx) (d' := kr) rfl ?_ h
  rintro w base ok x cs ⟨g, c, rfl, h⟩
  have h2 := Kd.R_take h (m := x.length) (by rw [List.length_append]; omega)
  rw [List.take_left] at h2
  exact ⟨_, rfl, h2⟩
end Go.Proofs.Ytjeaojolhdfpeaa.BookW
