/- wire's Reader: Count, as its callers see it. -/
import Derived.Test.YtcgajjaaiablkaaCatch96
namespace Go.Proofs.Ytcgajjaaiablkaa.RCount
open Go.RowKit Go.Proofs.YtcgajjaaiablkaaW.PrintWords Go.Proofs.YtcgajjaaiablkaaW.PrintLast Go.Proofs.YtcgajjaaiablkaaW.PrintMore
open Go.Proofs.Ytcgajjaaiablkaa.PRelaySealed Go.Proofs.Ytcgajjaaiablkaa.Reader
set_option linter.unusedVariables false
set_option linter.unusedSimpArgs false

/-- What one reading comes to, at a place and with an error: the number, the place, the error. -/
def rdNum (r : Int × Nat × Int) (a : Nat) (err : Int) : Int × Nat × Int := if err ≠ 0 then (0, a, err) else if r.2.2 = 0 then (r.1, a + r.2.1, 0) else (0, a, r.2.2)
def countR (bs : List Int) (a : Nat) (most err : Int) : Int × Nat × Int := rdNum (cnt bs a most) a err
/-- What a method's call leaves. -/
def Left (w0 w : World) (g : Nat) (bs : List Int) (v : Value) (a : Nat) (err : Int) (e : Ending) (w' : World) : Prop := e = .returned v ∧ Moved w0 w w' g bs a err

set_option maxHeartbeats 8000000 in
set_option maxRecDepth 100000 in
/-- The closure that Count hands on. -/
theorem counting (g rb mb : Nat) (bs : List Int) (a : Nat) (most : Int) (w0 w : World) (hI : Rd w0 w g bs a 0) (hB : Below w0.heap.size w0 w) (hb : Bytes bs) (ha : a ≤ bs.length) (hm : 0 ≤ most ∧ most ≤ 9223372036854775807)
    (hr : w.cell? ⟨rb, 0, none⟩ = some (.pointer (some ⟨g, 0, none⟩))) (hmo : w.cell? ⟨mb, 0, none⟩ = some (.int .i64 most)) :
    Calls Try.prog 74 #[.pointer (some ⟨rb, 0, none⟩), .pointer (some ⟨mb, 0, none⟩)] w (Reader.Outcome w0 w g bs (.int .i64 (cnt bs a most).1) (a + (cnt bs a most).2.1) (cnt bs a most).2.2 0) := by
  have H := Aside0.mk (count g bs a 0 most w0 w hI hB hb ha hm)
  clear hI hB
  generalize cnt bs a most = r at H ⊢
  by_cases hno : r.2.2 = 0
  · go_enter Try.func74, Try.ntmps74
    go_wp2_with (go_at_call 75; refine H.out.mono ?_; rintro e w1 (⟨_, rfl, hm1⟩ | ⟨h, _⟩); rotate_left; (exact absurd hno h); have HM1 := Aside0.mk hm1; clear hm1)
    go_ret
    exact .inl ⟨hno, rfl, HM1.out⟩
  · go_enter Try.func74, Try.ntmps74
    go_wp2_with (go_at_call 75; refine H.out.mono ?_; rintro e w1 (⟨h, _⟩ | ⟨_, rfl, m, hm1⟩); (exact absurd h hno); have HM1 := Aside0.mk hm1; clear hm1)
    exact ⟨rfl, .inr ⟨hno, rfl, _, HM1.out⟩⟩

set_option maxHeartbeats 8000000 in
set_option maxRecDepth 100000 in
theorem count_ (g : Nat) (bs : List Int) (a : Nat) (most err : Int) (w0 w : World) (hI : Rd w0 w g bs a err) (hB : Below w0.heap.size w0 w) (hb : Bytes bs) (ha : a ≤ bs.length) (hm : 0 ≤ most ∧ most ≤ 9223372036854775807) :
    Calls Try.prog 39 #[.pointer (some ⟨g, 0, none⟩), .int .i64 most] w (Left w0 w g bs (.int .i64 (countR bs a most err).1) (countR bs a most err).2.1 (countR bs a most err).2.2) := by
  have hmf : ∀ (fn : Fn) (first cap : Array Value) (w : World), (Instr.makeFunc fn first cap).run Try.prog w = .ok (.func fn first cap) w := fun _ _ _ _ => rfl
  have hlt : g < w.heap.size := by
    obtain ⟨A, c, h0, _⟩ := Reader.look hI
    exact World.block_lt_of_cell? w _ h0
  have HM := Aside0.mk (((Moved.refl hI hB).alloc (.cells #[.pointer (some ⟨g, 0, none⟩)] 62)).alloc (.cells #[.int .i64 most] 3))
  have BB : Aside0 (((w.alloc (.cells #[.pointer (some ⟨g, 0, none⟩)] 62)).alloc (.cells #[.int .i64 most] 3)).heap[w.heap.size]? = some (.cells #[.pointer (some ⟨g, 0, none⟩)] 62 (0, 0))) := ⟨blk_alloc (blk_new _ _) _⟩
  have BM : Aside0 (((w.alloc (.cells #[.pointer (some ⟨g, 0, none⟩)] 62)).alloc (.cells #[.int .i64 most] 3)).heap[w.heap.size + 1]? = some (.cells #[.int .i64 most] 3 (0, 0))) := ⟨by have := blk_new (w.alloc (.cells #[.pointer (some ⟨g, 0, none⟩)] 62)) (.cells #[.int .i64 most] 3); simpa using this⟩
  have HX : Aside0 (Calls Try.prog 73 #[.pointer (some ⟨g, 0, none⟩), .func (.func 74) #[] #[.pointer (some ⟨w.heap.size, 0, none⟩), .pointer (some ⟨w.heap.size + 1, 0, none⟩)]] ((w.alloc (.cells #[.pointer (some ⟨g, 0, none⟩)] 62)).alloc (.cells #[.int .i64 most] 3))
      (Left w0 ((w.alloc (.cells #[.pointer (some ⟨g, 0, none⟩)] 62)).alloc (.cells #[.int .i64 most] 3)) g bs (.int .i64 (countR bs a most err).1) (countR bs a most err).2.1 (countR bs a most err).2.2)) := ⟨by
    unfold countR rdNum
    by_cases he : err = 0
    · subst he
      rw [if_neg (by simp)]
      have hn := fun w1 (hm1 : Moved w0 ((w.alloc (.cells #[.pointer (some ⟨g, 0, none⟩)] 62)).alloc (.cells #[.int .i64 most] 3)) w1 g bs a 0) => counting g w.heap.size (w.heap.size + 1) bs a most w0 w1 hm1.rd hm1.below hb ha hm
        ((blk_cell (Reader96.Moved.blk hm1 BB.out (by omega)) 0).trans rfl) ((blk_cell (Reader96.Moved.blk hm1 BM.out (by omega)) 0).trans rfl)
      by_cases hno : (cnt bs a most).2.2 = 0
      · rw [if_pos hno]
        exact (Reader96.went g bs a (a + (cnt bs a most).2.1) w0 _ #[] #[.pointer (some ⟨w.heap.size, 0, none⟩), .pointer (some ⟨w.heap.size + 1, 0, none⟩)] (fun v _ => v = .int .i64 (cnt bs a most).1) HM.out.rd HM.out.below (fun w1 hm1 _ => (hn w1 hm1).mono (fun e w' h => by
          rcases h with ⟨_, h1, h2⟩ | ⟨h, _⟩
          · exact ⟨_, h1, h2, rfl⟩
          · exact absurd hno h))).mono (fun e w' ⟨v, h1, h2, h3⟩ => ⟨by rw [h1, h3], h2⟩)
      · rw [if_neg hno]
        exact (Reader96.gave g bs a (cnt bs a most).2.2 w0 _ #[] #[.pointer (some ⟨w.heap.size, 0, none⟩), .pointer (some ⟨w.heap.size + 1, 0, none⟩)] HM.out.rd HM.out.below (fun w1 hm1 => (hn w1 hm1).mono (fun e w' h => by
          rcases h with ⟨h, _⟩ | ⟨_, h1, h2⟩
          · exact absurd h hno
          · exact ⟨h1, h2⟩)))
    · rw [if_pos he]
      exact Reader96.spent g bs a err w0 _ _ HM.out.rd HM.out.below he⟩
  clear hI hB BB BM
  go_enter Try.func39, Try.ntmps39
  go_wp2_with (go_at_call 73; refine HX.out.mono ?_; rintro e w1 ⟨rfl, hm1⟩; have HM1 := Aside0.mk (HM.out.trans hm1); clear hm1)
  go_ret
  exact ⟨rfl, HM1.out⟩
end Go.Proofs.Ytcgajjaaiablkaa.RCount
