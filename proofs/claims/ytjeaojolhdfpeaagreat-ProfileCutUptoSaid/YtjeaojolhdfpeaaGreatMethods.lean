/- wire's Reader: Byte, Uint, Int, Count, as its callers see them. -/
import Derived.Test.YtjeaojolhdfpeaaGreatCatch120
import Derived.Test.YtjeaojolhdfpeaaGreatCatch137
import Derived.Test.YtjeaojolhdfpeaaGreatNums3
namespace Go.Proofs.YtjeaojolhdfpeaaGreat.Methods
open Go.RowKit Go.Proofs.YtjeaojolhdfpeaaGreatW.PrintWords Go.Proofs.YtjeaojolhdfpeaaGreatW.PrintLast Go.Proofs.YtjeaojolhdfpeaaGreatW.PrintMore
open Go.Proofs.YtjeaojolhdfpeaaGreat.PProfileCut Go.Proofs.YtjeaojolhdfpeaaGreat.Reader
set_option linter.unusedVariables false
set_option linter.unusedSimpArgs false

/-- What one reading comes to, at a place and with an error: the number, the place, the error. -/
def rdNum (r : Int × Nat × Int) (a : Nat) (err : Int) : Int × Nat × Int := if err ≠ 0 then (0, a, err) else if r.2.2 = 0 then (r.1, a + r.2.1, 0) else (0, a, r.2.2)
def byteR (bs : List Int) (a : Nat) (err : Int) : Int × Nat × Int := rdNum (if a < bs.length then (rd bs (a : Int), 1, 0) else (0, 0, 2)) a err
def uintR (bs : List Int) (a : Nat) (err : Int) : Int × Nat × Int := rdNum (num bs a) a err
def countR (bs : List Int) (a : Nat) (most err : Int) : Int × Nat × Int := rdNum (cnt bs a most) a err
/-- What a method's call leaves. -/
def Left (w0 w : World) (g : Nat) (bs : List Int) (v : Value) (a : Nat) (err : Int) (e : Ending) (w' : World) : Prop := e = .returned v ∧ Moved w0 w w' g bs a err

set_option maxHeartbeats 8000000 in
set_option maxRecDepth 100000 in
theorem byte (g : Nat) (bs : List Int) (a : Nat) (err : Int) (w0 w : World) (hI : Rd w0 w g bs a err) (hB : Below w0.heap.size w0 w) :
    Calls Tryz.prog 103 #[.pointer (some ⟨g, 0, none⟩)] w (Left w0 w g bs (.int .u8 (byteR bs a err).1) (byteR bs a err).2.1 (byteR bs a err).2.2) := by
  have hmf : ∀ (fn : Fn) (first cap : Array Value) (w : World), (Instr.makeFunc fn first cap).run Tryz.prog w = .ok (.func fn first cap) w := fun _ _ _ _ => rfl
  unfold byteR rdNum
  by_cases he : err = 0
  · subst he
    rw [if_neg (by simp)]
    by_cases ha : a < bs.length
    · rw [if_pos ha, if_pos rfl]
      have H := Aside0.mk (Reader137.went g bs a (a + 1) w0 w #[.pointer (some ⟨g, 0, none⟩)] #[] (fun v _ => v = .int .u8 (rd bs (a : Int))) hI hB (fun w1 hm _ => (next_some g bs a 0 w0 w1 hm.rd hm.below ha).mono (fun e w' h => ⟨_, h.1, h.2, rfl⟩)))
      clear hI hB
      go_enter Tryz.func103, Tryz.ntmps103
      go_wp2_with (go_at_call 133; refine H.out.mono ?_; rintro e w1 ⟨v, rfl, hm, rfl⟩; have HM1 := Aside0.mk hm; clear hm)
      go_ret
      exact ⟨rfl, HM1.out⟩
    · rw [if_neg ha, if_neg (by decide)]
      have H := Aside0.mk (Reader137.gave g bs a 2 w0 w #[.pointer (some ⟨g, 0, none⟩)] #[] hI hB (fun w1 hm => (next_none g bs a 0 w0 w1 hm.rd hm.below (by omega)).mono (fun e w' h => ⟨h.1, _, h.2⟩)))
      clear hI hB
      go_enter Tryz.func103, Tryz.ntmps103
      go_wp2_with (go_at_call 133; refine H.out.mono ?_; rintro e w1 ⟨rfl, hm⟩; have HM1 := Aside0.mk hm; clear hm)
      go_ret
      exact ⟨rfl, HM1.out⟩
  · rw [if_pos he]
    have H := Aside0.mk (Reader137.spent g bs a err w0 w (.func (.func 134) #[.pointer (some ⟨g, 0, none⟩)] #[]) hI hB he)
    clear hI hB
    go_enter Tryz.func103, Tryz.ntmps103
    go_wp2_with (go_at_call 133; refine H.out.mono ?_; rintro e w1 ⟨rfl, hm⟩; have HM1 := Aside0.mk hm; clear hm)
    go_ret
    exact ⟨rfl, HM1.out⟩

/-- What reading a number comes to, whatever the error. -/
theorem numbers (g : Nat) (bs : List Int) (a : Nat) (err : Int) (w0 w : World) (hI : Rd w0 w g bs a err) (hB : Below w0.heap.size w0 w) (hb : Bytes bs) (ha : a ≤ bs.length) :
    Calls Tryz.prog 135 #[.pointer (some ⟨g, 0, none⟩), .func (.func 132) #[.pointer (some ⟨g, 0, none⟩)] #[]] w (Left w0 w g bs (.int .u64 (uintR bs a err).1) (uintR bs a err).2.1 (uintR bs a err).2.2) := by
  unfold uintR rdNum
  by_cases he : err = 0
  · subst he
    rw [if_neg (by simp)]
    have hn := fun w1 h1 h2 => number g bs a 0 w0 w1 h1 h2 hb ha
    by_cases hno : (num bs a).2.2 = 0
    · rw [if_pos hno]
      exact (Reader138.went g bs a (a + (num bs a).2.1) w0 w #[.pointer (some ⟨g, 0, none⟩)] #[] (fun v _ => v = .int .u64 (num bs a).1) hI hB (fun w1 hm _ => (hn w1 hm.rd hm.below).mono (fun e w' h => by
        rcases h with ⟨_, h1, h2⟩ | ⟨h, _⟩
        · exact ⟨_, h1, h2, rfl⟩
        · exact absurd hno h))).mono (fun e w' ⟨v, h1, h2, h3⟩ => ⟨by rw [h1, h3], h2⟩)
    · rw [if_neg hno]
      exact (Reader138.gave g bs a (num bs a).2.2 w0 w #[.pointer (some ⟨g, 0, none⟩)] #[] hI hB (fun w1 hm => (hn w1 hm.rd hm.below).mono (fun e w' h => by
        rcases h with ⟨h, _⟩ | ⟨_, h1, h2⟩
        · exact absurd h hno
        · exact ⟨h1, h2⟩)))
  · rw [if_pos he]
    exact Reader138.spent g bs a err w0 w _ hI hB he

set_option maxHeartbeats 8000000 in
set_option maxRecDepth 100000 in
theorem uint (g : Nat) (bs : List Int) (a : Nat) (err : Int) (w0 w : World) (hI : Rd w0 w g bs a err) (hB : Below w0.heap.size w0 w) (hb : Bytes bs) (ha : a ≤ bs.length) :
    Calls Tryz.prog 104 #[.pointer (some ⟨g, 0, none⟩)] w (Left w0 w g bs (.int .u64 (uintR bs a err).1) (uintR bs a err).2.1 (uintR bs a err).2.2) := by
  have hmf : ∀ (fn : Fn) (first cap : Array Value) (w : World), (Instr.makeFunc fn first cap).run Tryz.prog w = .ok (.func fn first cap) w := fun _ _ _ _ => rfl
  have H := Aside0.mk (numbers g bs a err w0 w hI hB hb ha)
  clear hI hB
  go_enter Tryz.func104, Tryz.ntmps104
  go_wp2_with (go_at_call 135; refine H.out.mono ?_; rintro e w1 ⟨rfl, hm⟩; have HM1 := Aside0.mk hm; clear hm)
  go_ret
  exact ⟨rfl, HM1.out⟩

set_option maxHeartbeats 8000000 in
set_option maxRecDepth 100000 in
theorem int_ (g : Nat) (bs : List Int) (a : Nat) (err : Int) (w0 w : World) (hI : Rd w0 w g bs a err) (hB : Below w0.heap.size w0 w) (hb : Bytes bs) (ha : a ≤ bs.length) :
    Calls Tryz.prog 105 #[.pointer (some ⟨g, 0, none⟩)] w (Left w0 w g bs (.int .i64 (Nums3.unzig (uintR bs a err).1)) (uintR bs a err).2.1 (uintR bs a err).2.2) := by
  have hmf : ∀ (fn : Fn) (first cap : Array Value) (w : World), (Instr.makeFunc fn first cap).run Tryz.prog w = .ok (.func fn first cap) w := fun _ _ _ _ => rfl
  have H := Aside0.mk (numbers g bs a err w0 w hI hB hb ha)
  clear hI hB
  have hr : 0 ≤ (uintR bs a err).1 ∧ (uintR bs a err).1 < 18446744073709551616 := by
    have := num_range bs a hb
    unfold uintR rdNum
    repeat' split
    all_goals simp only
    all_goals omega
  generalize uintR bs a err = r at H hr ⊢
  have hun := Nums3.unzag r.1 hr
  go_enter Tryz.func105, Tryz.ntmps105
  go_wp2_with (go_at_call 135; refine H.out.mono ?_; rintro e w1 ⟨rfl, hm⟩; have HM1 := Aside0.mk hm; clear hm)
  go_ret
  exact ⟨rfl, HM1.out⟩

set_option maxHeartbeats 8000000 in
set_option maxRecDepth 100000 in
/-- The closure that Count hands on. -/
theorem counting (g rb mb : Nat) (bs : List Int) (a : Nat) (most : Int) (w0 w : World) (hI : Rd w0 w g bs a 0) (hB : Below w0.heap.size w0 w) (hb : Bytes bs) (ha : a ≤ bs.length) (hm : 0 ≤ most ∧ most ≤ 9223372036854775807)
    (hr : w.cell? ⟨rb, 0, none⟩ = some (.pointer (some ⟨g, 0, none⟩))) (hmo : w.cell? ⟨mb, 0, none⟩ = some (.int .i64 most)) :
    Calls Tryz.prog 101 #[.pointer (some ⟨rb, 0, none⟩), .pointer (some ⟨mb, 0, none⟩)] w (Reader.Outcome w0 w g bs (.int .i64 (cnt bs a most).1) (a + (cnt bs a most).2.1) (cnt bs a most).2.2 0) := by
  have H := Aside0.mk (count g bs a 0 most w0 w hI hB hb ha hm)
  clear hI hB
  generalize cnt bs a most = r at H ⊢
  by_cases hno : r.2.2 = 0
  · go_enter Tryz.func101, Tryz.ntmps101
    go_wp2_with (go_at_call 102; refine H.out.mono ?_; rintro e w1 (⟨_, rfl, hm1⟩ | ⟨h, _⟩); rotate_left; (exact absurd hno h); have HM1 := Aside0.mk hm1; clear hm1)
    go_ret
    exact .inl ⟨hno, rfl, HM1.out⟩
  · go_enter Tryz.func101, Tryz.ntmps101
    go_wp2_with (go_at_call 102; refine H.out.mono ?_; rintro e w1 (⟨h, _⟩ | ⟨_, rfl, m, hm1⟩); (exact absurd h hno); have HM1 := Aside0.mk hm1; clear hm1)
    exact ⟨rfl, .inr ⟨hno, rfl, _, HM1.out⟩⟩

set_option maxHeartbeats 8000000 in
set_option maxRecDepth 100000 in
theorem count_ (g : Nat) (bs : List Int) (a : Nat) (most err : Int) (w0 w : World) (hI : Rd w0 w g bs a err) (hB : Below w0.heap.size w0 w) (hb : Bytes bs) (ha : a ≤ bs.length) (hm : 0 ≤ most ∧ most ≤ 9223372036854775807) :
    Calls Tryz.prog 55 #[.pointer (some ⟨g, 0, none⟩), .int .i64 most] w (Left w0 w g bs (.int .i64 (countR bs a most err).1) (countR bs a most err).2.1 (countR bs a most err).2.2) := by
  have hmf : ∀ (fn : Fn) (first cap : Array Value) (w : World), (Instr.makeFunc fn first cap).run Tryz.prog w = .ok (.func fn first cap) w := fun _ _ _ _ => rfl
  have hlt : g < w.heap.size := by
    obtain ⟨A, c, h0, _⟩ := Reader.look hI
    exact World.block_lt_of_cell? w _ h0
  have HM := Aside0.mk (((Moved.refl hI hB).alloc (.cells #[.pointer (some ⟨g, 0, none⟩)] 111)).alloc (.cells #[.int .i64 most] 3))
  have BB : Aside0 (((w.alloc (.cells #[.pointer (some ⟨g, 0, none⟩)] 111)).alloc (.cells #[.int .i64 most] 3)).heap[w.heap.size]? = some (.cells #[.pointer (some ⟨g, 0, none⟩)] 111 (0, 0))) := ⟨blk_alloc (blk_new _ _) _⟩
  have BM : Aside0 (((w.alloc (.cells #[.pointer (some ⟨g, 0, none⟩)] 111)).alloc (.cells #[.int .i64 most] 3)).heap[w.heap.size + 1]? = some (.cells #[.int .i64 most] 3 (0, 0))) := ⟨by have := blk_new (w.alloc (.cells #[.pointer (some ⟨g, 0, none⟩)] 111)) (.cells #[.int .i64 most] 3); simpa using this⟩
  have HX : Aside0 (Calls Tryz.prog 100 #[.pointer (some ⟨g, 0, none⟩), .func (.func 101) #[] #[.pointer (some ⟨w.heap.size, 0, none⟩), .pointer (some ⟨w.heap.size + 1, 0, none⟩)]] ((w.alloc (.cells #[.pointer (some ⟨g, 0, none⟩)] 111)).alloc (.cells #[.int .i64 most] 3))
      (Left w0 ((w.alloc (.cells #[.pointer (some ⟨g, 0, none⟩)] 111)).alloc (.cells #[.int .i64 most] 3)) g bs (.int .i64 (countR bs a most err).1) (countR bs a most err).2.1 (countR bs a most err).2.2)) := ⟨by
    unfold countR rdNum
    by_cases he : err = 0
    · subst he
      rw [if_neg (by simp)]
      have hn := fun w1 (hm1 : Moved w0 ((w.alloc (.cells #[.pointer (some ⟨g, 0, none⟩)] 111)).alloc (.cells #[.int .i64 most] 3)) w1 g bs a 0) => counting g w.heap.size (w.heap.size + 1) bs a most w0 w1 hm1.rd hm1.below hb ha hm
        ((blk_cell (Reader120.Moved.blk hm1 BB.out (by omega)) 0).trans rfl) ((blk_cell (Reader120.Moved.blk hm1 BM.out (by omega)) 0).trans rfl)
      by_cases hno : (cnt bs a most).2.2 = 0
      · rw [if_pos hno]
        exact (Reader120.went g bs a (a + (cnt bs a most).2.1) w0 _ #[] #[.pointer (some ⟨w.heap.size, 0, none⟩), .pointer (some ⟨w.heap.size + 1, 0, none⟩)] (fun v _ => v = .int .i64 (cnt bs a most).1) HM.out.rd HM.out.below (fun w1 hm1 _ => (hn w1 hm1).mono (fun e w' h => by
          rcases h with ⟨_, h1, h2⟩ | ⟨h, _⟩
          · exact ⟨_, h1, h2, rfl⟩
          · exact absurd hno h))).mono (fun e w' ⟨v, h1, h2, h3⟩ => ⟨by rw [h1, h3], h2⟩)
      · rw [if_neg hno]
        exact (Reader120.gave g bs a (cnt bs a most).2.2 w0 _ #[] #[.pointer (some ⟨w.heap.size, 0, none⟩), .pointer (some ⟨w.heap.size + 1, 0, none⟩)] HM.out.rd HM.out.below (fun w1 hm1 => (hn w1 hm1).mono (fun e w' h => by
          rcases h with ⟨h, _⟩ | ⟨_, h1, h2⟩
          · exact absurd h hno
          · exact ⟨h1, h2⟩)))
    · rw [if_pos he]
      exact Reader120.spent g bs a err w0 _ _ HM.out.rd HM.out.below he⟩
  clear hI hB BB BM
  go_enter Tryz.func55, Tryz.ntmps55
  go_wp2_with (go_at_call 100; refine HX.out.mono ?_; rintro e w1 ⟨rfl, hm1⟩; have HM1 := Aside0.mk (HM.out.trans hm1); clear hm1)
  go_ret
  exact ⟨rfl, HM1.out⟩
end Go.Proofs.YtjeaojolhdfpeaaGreat.Methods
