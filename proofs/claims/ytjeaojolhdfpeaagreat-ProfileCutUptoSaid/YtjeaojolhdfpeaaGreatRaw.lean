/- wire's Reader: Raw, of a reader whose bytes' room is known. -/
import Derived.Test.YtjeaojolhdfpeaaGreatCatch119
import Derived.Test.YtjeaojolhdfpeaaGreatClone
namespace Go.Proofs.YtjeaojolhdfpeaaGreat.Raw
open Go.RowKit Go.Proofs.YtjeaojolhdfpeaaGreatW.PrintWords Go.Proofs.YtjeaojolhdfpeaaGreatW.PrintLast Go.Proofs.YtjeaojolhdfpeaaGreatW.PrintMore
open Go.Proofs.YtjeaojolhdfpeaaGreat.PProfileCut Go.Proofs.YtjeaojolhdfpeaaGreat.Reader
set_option linter.unusedVariables false
set_option linter.unusedSimpArgs false

/-- A reader, the room behind its bytes told. -/
structure Rc (w0 w : World) (g : Nat) (A : Option Addr) (c : Nat) (bs : List Int) (a e : Int) : Prop where
  blk : w.heap[g]? = some (.cells #[.slice A bs.length c, .int .i64 a, .int .i64 e] 161 (0, 0))
  ge : w0.heap.size ≤ g
  row : Kd.C (Kd.int .u8) w0 A bs.length bs
  room : bs.length ≤ c
  below : Below w0.heap.size w0 w
theorem Rc.rd {w0 w : World} {g : Nat} {A : Option Addr} {c : Nat} {bs : List Int} {a e : Int} (h : Rc w0 w g A c bs a e) : Rd w0 w g bs a e := ⟨A, c, h.blk, h.ge, h.row⟩

theorem Rc.set1 {w0 w : World} {g : Nat} {A : Option Addr} {c : Nat} {bs : List Int} {a e : Int} (h : Rc w0 w g A c bs a e) (x : Int) : Rc w0 (w.setCell ⟨g, 1, none⟩ (.int .i64 x)) g A c bs x e :=
  ⟨by simpa using blk_set h.blk 1 (.int .i64 x), h.ge, h.row, h.room, below_set h.below h.ge⟩
theorem Rc.drewN {w0 w : World} {g : Nat} {A : Option Addr} {c : Nat} {bs : List Int} {a e : Int} (h : Rc w0 w g A c bs a e) (m : Nat) : Rc w0 (w.drewN m) g A c bs a e := ⟨h.blk, h.ge, h.row, h.room, pw_below_drewN h.below m⟩
def Took (w0 w : World) (g : Nat) (bs : List Int) (a n : Nat) (err : Int) (e : Ending) (w' : World) : Prop := ∃ A' c', e = .returned (.slice A' n c') ∧ Moved w0 w w' g bs ((a + n : Nat) : Int) err ∧ Kd.C (Kd.int .u8) w' A' n ((bs.drop a).take n)
theorem ret_slice {A : Option Addr} {x y c : Nat} (h : x = y) : Ending.returned (.slice A x c) = .returned (.slice A y c) := by rw [h]
theorem info5_ : (Tryz.prog.info? 5).map (fun i => (i.zero, i.size, i.bytes)) = some (some (.int .u8 0), 1, 1) := by kernel_rfl
set_option maxHeartbeats 8000000 in
set_option maxRecDepth 100000 in
theorem take_some (g : Nat) (A : Option Addr) (c : Nat) (bs : List Int) (a n : Nat) (err : Int) (w0 w : World) (hI : Rc w0 w g A c bs a err) (hn : a + n ≤ bs.length) :
    Calls Tryz.prog 99 #[.pointer (some ⟨g, 0, none⟩), .int .i64 n] w (Took w0 w g bs a n err) := by
  have HM := Aside0.mk (Moved.refl hI.rd hI.below)
  have HI := Aside0.mk hI
  have hroom := hI.room
  obtain ⟨A2, c2, h0, h1, h2, f1, f2, hmax⟩ := Reader.look hI.rd
  have e0 := cellS161_0 hI.blk
  rw [e0] at h0
  cases h0
  clear hI
  have p1 : decide ((bs.length : Int) - (a : Int) < (n : Int)) = false := by simp; omega
  go_enter Tryz.func99, Tryz.ntmps99
  go_wp2
  go_quiet (fail)
  go_wp2
  replace HM := Aside0.mk ((HM.out.drewN nq).set1 ((a : Int) + (n : Int)))
  replace HI := Aside0.mk ((HI.out.drewN nq).set1 ((a : Int) + (n : Int)))
  generalize (w.drewN nq).setCell ⟨g, 1, none⟩ (.int .i64 ((a : Int) + (n : Int))) = W at HM HI ⊢
  clear h1 h2 f1 f2 e0
  obtain ⟨A2, c2, h0, h1, h2, f1, f2, _⟩ := Reader.look HI.out.rd
  have e0 := cellS161_0 HI.out.blk
  rw [e0] at h0
  cases h0
  obtain ⟨i5, hi5, _, hs5, _⟩ := info_parts info5_
  have hcut := cut_mid (P := Tryz.prog) 54 5 .i64 .i64 Tryz.underlying54 hi5 1 hs5 A bs.length c (a : Int) ((a : Int) + (n : Int)) (by omega) (by omega) (by omega) hroom
  have hC := Kd.C_mid (k := Kd.int .u8) (lo := a) (hi := a + n) (c := c) (Kd.C_below HI.out.row HI.out.below) (by omega) hn hroom
  have hd : (bs.take (a + n)).drop a = (bs.drop a).take n := by rw [List.drop_take]; congr 1; omega
  have hl : ((bs.drop a).take n).length = n := by rw [List.length_take, List.length_drop]; omega
  rw [hd, hl] at hC
  clear hd hl
  by_cases hca : c = a
  · rw [if_pos hca] at hC
    have HC := Aside0.mk hC
    have q1 : (c = (a : Int).toNat) = True := by simp [hca]
    rw [if_pos (by simpa using hca)] at hcut
    clear hC hca q1
    go_quiet (fail)
    go_wp2
    go_ret
    exact ⟨_, _, ret_slice (by omega), HM.out.drewN _, Kd.C_drewN HC.out _⟩
  · rw [if_neg hca, show a * (Kd.int .u8).sz = a from Nat.mul_one a] at hC
    have HC := Aside0.mk hC
    rw [if_neg (by simpa using hca)] at hcut
    clear hC hca
    go_quiet (fail)
    go_wp2
    go_ret
    exact ⟨_, _, ret_slice (by omega), HM.out.drewN _, Kd.C_drewN HC.out _⟩

set_option maxHeartbeats 8000000 in
set_option maxRecDepth 100000 in
theorem take_none (g : Nat) (bs : List Int) (a n : Nat) (err : Int) (w0 w : World) (hI : Rd w0 w g bs a err) (hB : Below w0.heap.size w0 w) (ha : a ≤ bs.length) (hn : bs.length < a + n) :
    Calls Tryz.prog 99 #[.pointer (some ⟨g, 0, none⟩), .int .i64 n] w fun e w' => e = .panicked [fault 2] ∧ Moved w0 w w' g bs a err := by
  have HM := Aside0.mk (Moved.refl hI hB)
  obtain ⟨A, c, h0, h1, h2, f1, f2, hmax⟩ := Reader.look hI
  clear hI hB
  have p1 : decide ((bs.length : Int) - (a : Int) < (n : Int)) = true := by simp; omega
  go_enter Tryz.func99, Tryz.ntmps99
  go_wp2
  go_quiet (fail)
  go_wp2
  exact ⟨rfl, rfl, HM.out.drewN _⟩

/-- The closure that Raw hands on: it takes, and clones. -/
def Cloned (w0 w : World) (g : Nat) (bs : List Int) (a n : Nat) (v : Value) (w' : World) : Prop := Kd.R (Kd.int .u8) 5 w' w0.heap.size (fun k => w.heap.size ≤ k) v ((bs.drop a).take n)
set_option maxHeartbeats 8000000 in
set_option maxRecDepth 100000 in
theorem cloning (g rb nb : Nat) (A : Option Addr) (c : Nat) (bs : List Int) (a n : Nat) (w0 w : World) (hI : Rc w0 w g A c bs a 0) (hn : a + n ≤ bs.length) (hl : bs.length ≤ 140737488355328)
    (hr : w.cell? ⟨rb, 0, none⟩ = some (.pointer (some ⟨g, 0, none⟩))) (hno : w.cell? ⟨nb, 0, none⟩ = some (.int .i64 n)) :
    Calls Tryz.prog 98 #[.pointer (some ⟨nb, 0, none⟩), .pointer (some ⟨rb, 0, none⟩)] w fun e w' => ∃ v, e = .returned v ∧ Moved w0 w w' g bs ((a + n : Nat) : Int) 0 ∧ Cloned w0 w g bs a n v w' := by
  have H := Aside0.mk (take_some g A c bs a n 0 w0 w hI hn)
  clear hI
  have p0 : decide ((n : Int) < 0) = false := by simp
  go_enter Tryz.func98, Tryz.ntmps98
  go_wp2_with (first | (go_at_call 99; refine H.out.mono ?_; rintro e w1 ⟨A', c', rfl, hm, hc⟩; have HM1 := Aside0.mk hm; have HC1 := Aside0.mk hc; clear hm hc) | (go_at_call 96; refine (Clone.clone w0 w1 ((bs.drop a).take n) A' n c' HM1.out.below HC1.out (by omega)).mono ?_; rintro e w2 ⟨v, rfl, hR, hb⟩; have HR := Aside0.mk hR; have HB2 := Aside0.mk hb; clear hR hb))
  go_ret
  refine ⟨v, rfl, ⟨HM1.out.rd.below HB2.out, below_then HM1.out.below HM1.out.below.size HB2.out, HM1.out.keep.trans (KeepBut.of_below HB2.out g none) (.inl rfl)⟩, Kd.R_mono HR.out (fun k hk => Nat.le_trans HM1.out.keep.1 hk)⟩
set_option maxHeartbeats 8000000 in
set_option maxRecDepth 100000 in
theorem cloning_no (g rb nb : Nat) (bs : List Int) (a n : Nat) (w0 w : World) (hI : Rd w0 w g bs a 0) (hB : Below w0.heap.size w0 w) (ha : a ≤ bs.length) (hn : bs.length < a + n)
    (hr : w.cell? ⟨rb, 0, none⟩ = some (.pointer (some ⟨g, 0, none⟩))) (hno : w.cell? ⟨nb, 0, none⟩ = some (.int .i64 n)) :
    Calls Tryz.prog 98 #[.pointer (some ⟨nb, 0, none⟩), .pointer (some ⟨rb, 0, none⟩)] w fun e w' => e = .panicked [fault 2] ∧ ∃ m, Moved w0 w w' g bs m 0 := by
  have H := Aside0.mk (take_none g bs a n 0 w0 w hI hB ha hn)
  clear hI hB
  have p0 : decide ((n : Int) < 0) = false := by simp
  go_enter Tryz.func98, Tryz.ntmps98
  go_wp2_with (go_at_call 99; refine H.out.mono ?_; rintro e w1 ⟨rfl, hm⟩; have HM1 := Aside0.mk hm; clear hm)
  exact ⟨rfl, rfl, _, HM1.out⟩

theorem Rc.of_moved {w0 w w1 : World} {g : Nat} {A : Option Addr} {c : Nat} {bs : List Int} {a e : Int} (h : Rc w0 w g A c bs a e) (hm : Below w.heap.size w w1) : Rc w0 w1 g A c bs a e :=
  ⟨blk_below h.blk hm, h.ge, h.row, h.room, below_then h.below h.below.size hm⟩
set_option maxHeartbeats 8000000 in
set_option maxRecDepth 100000 in
/-- Raw, of a reader that has not given up. -/
theorem raw_some (g : Nat) (A : Option Addr) (c : Nat) (bs : List Int) (a n : Nat) (w0 w : World) (hI : Rc w0 w g A c bs a 0) (hn : a + n ≤ bs.length) (hl : bs.length ≤ 140737488355328) :
    Calls Tryz.prog 53 #[.pointer (some ⟨g, 0, none⟩), .int .i64 n] w fun e w' => ∃ v, e = .returned v ∧ Moved w0 w w' g bs ((a + n : Nat) : Int) 0 ∧ Cloned w0 w g bs a n v w' := by
  have hmf : ∀ (fn : Fn) (first cap : Array Value) (w : World), (Instr.makeFunc fn first cap).run Tryz.prog w = .ok (.func fn first cap) w := fun _ _ _ _ => rfl
  have hlt : g < w.heap.size := blk_lt hI.blk
  have HM := Aside0.mk (((Moved.refl hI.rd hI.below).alloc (.cells #[.pointer (some ⟨g, 0, none⟩)] 111)).alloc (.cells #[.int .i64 n] 3))
  have hb2 : Below w.heap.size w ((w.alloc (.cells #[.pointer (some ⟨g, 0, none⟩)] 111)).alloc (.cells #[.int .i64 n] 3)) := below_alloc (below_alloc (Below.refl _ _) _) _
  have HI := Aside0.mk (hI.of_moved hb2)
  have BB : Aside0 (((w.alloc (.cells #[.pointer (some ⟨g, 0, none⟩)] 111)).alloc (.cells #[.int .i64 n] 3)).heap[w.heap.size]? = some (.cells #[.pointer (some ⟨g, 0, none⟩)] 111 (0, 0))) := ⟨blk_alloc (blk_new _ _) _⟩
  have BM : Aside0 (((w.alloc (.cells #[.pointer (some ⟨g, 0, none⟩)] 111)).alloc (.cells #[.int .i64 n] 3)).heap[w.heap.size + 1]? = some (.cells #[.int .i64 n] 3 (0, 0))) := ⟨by have := blk_new (w.alloc (.cells #[.pointer (some ⟨g, 0, none⟩)] 111)) (.cells #[.int .i64 n] 3); simpa using this⟩
  have HX : Aside0 (Calls Tryz.prog 97 #[.pointer (some ⟨g, 0, none⟩), .func (.func 98) #[] #[.pointer (some ⟨w.heap.size + 1, 0, none⟩), .pointer (some ⟨w.heap.size, 0, none⟩)]] ((w.alloc (.cells #[.pointer (some ⟨g, 0, none⟩)] 111)).alloc (.cells #[.int .i64 n] 3))
      (fun e w' => ∃ v, e = .returned v ∧ Moved w0 ((w.alloc (.cells #[.pointer (some ⟨g, 0, none⟩)] 111)).alloc (.cells #[.int .i64 n] 3)) w' g bs ((a + n : Nat) : Int) 0 ∧ Cloned w0 w g bs a n v w')) := ⟨by
    refine Reader119.went g bs a (a + n) w0 _ #[] #[.pointer (some ⟨w.heap.size + 1, 0, none⟩), .pointer (some ⟨w.heap.size, 0, none⟩)] (Cloned w0 w g bs a n) HM.out.rd HM.out.below (fun w1 hm1 hb1 => ?_)
    refine (cloning g w.heap.size (w.heap.size + 1) A c bs a n w0 w1 (HI.out.of_moved hb1) hn hl ((blk_cell (blk_below BB.out hb1) 0).trans rfl) ((blk_cell (blk_below BM.out hb1) 0).trans rfl)).mono ?_
    rintro e w' ⟨v, h1, h2, h3⟩
    refine ⟨v, h1, h2, Kd.R_mono h3 (fun k hk => ?_)⟩
    have := hb1.size
    simp at this
    omega⟩
  clear hI BB BM hb2
  go_enter Tryz.func53, Tryz.ntmps53
  go_wp2_with (go_at_call 97; refine HX.out.mono ?_; rintro e w1 ⟨v, rfl, hm1, hV⟩; have HM1 := Aside0.mk (HM.out.trans hm1); have HV := Aside0.mk hV; clear hm1 hV)
  go_ret
  exact ⟨v, rfl, HM1.out, HV.out⟩
set_option maxHeartbeats 8000000 in
set_option maxRecDepth 100000 in
theorem raw_none (g : Nat) (bs : List Int) (a n : Nat) (w0 w : World) (hI : Rd w0 w g bs a 0) (hB : Below w0.heap.size w0 w) (ha : a ≤ bs.length) (hn : bs.length < a + n) :
    Calls Tryz.prog 53 #[.pointer (some ⟨g, 0, none⟩), .int .i64 n] w fun e w' => e = .returned (.slice none 0 0) ∧ Moved w0 w w' g bs a 2 := by
  have hmf : ∀ (fn : Fn) (first cap : Array Value) (w : World), (Instr.makeFunc fn first cap).run Tryz.prog w = .ok (.func fn first cap) w := fun _ _ _ _ => rfl
  have hlt : g < w.heap.size := by
    obtain ⟨A, c, h0, _⟩ := Reader.look hI
    exact World.block_lt_of_cell? w _ h0
  have HM := Aside0.mk (((Moved.refl hI hB).alloc (.cells #[.pointer (some ⟨g, 0, none⟩)] 111)).alloc (.cells #[.int .i64 n] 3))
  have BB : Aside0 (((w.alloc (.cells #[.pointer (some ⟨g, 0, none⟩)] 111)).alloc (.cells #[.int .i64 n] 3)).heap[w.heap.size]? = some (.cells #[.pointer (some ⟨g, 0, none⟩)] 111 (0, 0))) := ⟨blk_alloc (blk_new _ _) _⟩
  have BM : Aside0 (((w.alloc (.cells #[.pointer (some ⟨g, 0, none⟩)] 111)).alloc (.cells #[.int .i64 n] 3)).heap[w.heap.size + 1]? = some (.cells #[.int .i64 n] 3 (0, 0))) := ⟨by have := blk_new (w.alloc (.cells #[.pointer (some ⟨g, 0, none⟩)] 111)) (.cells #[.int .i64 n] 3); simpa using this⟩
  have HX := Aside0.mk (Reader119.gave g bs a 2 w0 _ #[] #[.pointer (some ⟨w.heap.size + 1, 0, none⟩), .pointer (some ⟨w.heap.size, 0, none⟩)] HM.out.rd HM.out.below (fun w1 hm1 => cloning_no g w.heap.size (w.heap.size + 1) bs a n w0 w1 hm1.rd hm1.below ha hn
    ((blk_cell (Reader119.Moved.blk hm1 BB.out (by omega)) 0).trans rfl) ((blk_cell (Reader119.Moved.blk hm1 BM.out (by omega)) 0).trans rfl)))
  clear hI hB BB BM
  go_enter Tryz.func53, Tryz.ntmps53
  go_wp2_with (go_at_call 97; refine HX.out.mono ?_; rintro e w1 ⟨rfl, hm1⟩; have HM1 := Aside0.mk (HM.out.trans hm1); clear hm1)
  go_ret
  exact ⟨rfl, HM1.out⟩
end Go.Proofs.YtjeaojolhdfpeaaGreat.Raw
