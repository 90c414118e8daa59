/- What a call of reading defers: where the reading gave up, the place stays and the error is kept. -/
/- Plain arithmetic: an unsigned number is unfolded into a signed one. -/
import Derived.Test.YtjeaojolhdfpeaaGreatReader
import Derived.Defers
import Derived.Recover
import Derived.Laws.BitsAllLaws
import Derived.Laws.Bits64
import Derived.RowKit
import Derived.Laws.Bits128
namespace Go.Proofs.YtjeaojolhdfpeaaGreat.Reader138
open Go.RowKit Go.Proofs.YtjeaojolhdfpeaaGreatW.PrintWords Go.Proofs.YtjeaojolhdfpeaaGreatW.PrintLast Go.Proofs.YtjeaojolhdfpeaaGreatW.PrintMore
open Go.Proofs.YtjeaojolhdfpeaaGreat.PProfileCut Go.Proofs.YtjeaojolhdfpeaaGreat.Reader
set_option linter.unusedVariables false
set_option linter.unusedSimpArgs false

set_option maxHeartbeats 8000000 in
set_option maxRecDepth 100000 in
theorem idle138 (pa pr : Addr) (w : World) :
    CallsD Tryz.prog 152 #[.pointer (some pa), .pointer (some pr)] .returning w fun e u' w' => e = .returned (.tuple #[]) ∧ u' = .returning ∧ w' = w := by
  have hnil : ∀ w, (binOp .eql 20 .nilIface .nilIface).run Tryz.prog w = .ok (.bool true) w := fun _ => rfl
  refine callsD_of_wpS Tryz.func152 rfl fun c₀ cs hu => ?_
  simp only [Tryz.ntmps152, List.size_toArray, List.length_cons, List.length_nil, Nat.reduceAdd, Nat.reduceSub, Array.replicate_succ, Array.replicate_zero, List.push_toArray, List.append_toArray, List.nil_append, List.cons_append]
  apply wpS_seq
  apply wpS_region
  generalize hQ : Exit.thenS _ _ = Q
  simp [wpOpsS, go_sem, recoverD, hu]
  subst hQ
  show Code.wpS _ _ _ _ _ _
  refine wpS_of_wp ?_
  refine Code.wp_mono (Q := fun e a' w' => e = .ret ∧ a'.defers = [] ∧ w' = w) ?_ ?_
  · rintro e a' w' ⟨rfl, hd, rfl⟩
    exact ⟨hd, c₀.mode, by cases c₀; rfl, _, by simp [results, Tryz.results138], rfl, hu, rfl⟩
  go_wp2_with fail

set_option maxHeartbeats 8000000 in
set_option maxRecDepth 100000 in
theorem caught138 (ab rb g : Nat) (bs : List Int) (a m q : Int) (older : List PanicEntry) (w0 w : World) (hI : Rd w0 w g bs m 0) (hB : Below w0.heap.size w0 w) (ha : w.cell? ⟨ab, 0, none⟩ = some (.int .i64 a)) (hr : w.cell? ⟨rb, 0, none⟩ = some (.pointer (some ⟨g, 0, none⟩))) (hab : ab ≠ g) (hrb : rb ≠ g) :
    CallsD Tryz.prog 152 #[.pointer (some ⟨ab, 0, none⟩), .pointer (some ⟨rb, 0, none⟩)] (.panicking (fault q :: older)) w fun e u' w' =>
      e = .returned (.tuple #[]) ∧ u' = .panicking ({ v := .iface 164 (.agg #[.int .i64 q]), recovered := true } :: older) ∧ Moved w0 w w' g bs a q := by
  have hnil : ∀ w, (binOp .eql 20 (.iface 164 (.agg #[.int .i64 q])) .nilIface).run Tryz.prog w = .ok (.bool false) w := fun _ => rfl
  have hta : ∀ w, (Instr.typeAssert (.iface 164 (.agg #[.int .i64 q])) 20 164 true).run Tryz.prog w = .ok (.tuple #[.agg #[.int .i64 q], .bool true]) w := fun _ => by kernel_rfl
  have HM := Aside0.mk (Moved.refl hI hB)
  obtain ⟨A, c, h0, h1, h2, f1, f2, hmax⟩ := Reader.look hI
  clear hI hB
  refine callsD_of_wpS Tryz.func152 rfl fun c₀ cs hu => ?_
  simp only [fault] at hu
  simp only [Tryz.ntmps152, List.size_toArray, List.length_cons, List.length_nil, Nat.reduceAdd, Nat.reduceSub, Array.replicate_succ, Array.replicate_zero, List.push_toArray, List.append_toArray, List.nil_append, List.cons_append]
  apply wpS_seq
  apply wpS_region
  generalize hQ : Exit.thenS _ _ = Q
  simp [wpOpsS, go_sem, recoverD, hu]
  subst hQ
  show Code.wpS _ _ _ _ _ _
  refine wpS_of_wp ?_
  refine Code.wp_mono (Q := fun e a' w' => e = .normal ∧ a'.defers = [] ∧ Moved w0 w w' g bs a q) ?_ ?_
  · rintro e a' w' ⟨rfl, hd, hm⟩
    exact ⟨hd, _, rfl, _, by simp [results, Tryz.results138], rfl, rfl, hm⟩
  go_wp2_with fail
  have lt1 := World.block_lt_of_cell? w _ ha
  have lt2 := World.block_lt_of_cell? w _ hr
  have lt3 := World.block_lt_of_cell? w _ h0
  simp only at lt1 lt2 lt3
  have hnew : (w.alloc (.cells #[.int .i64 q] 164)).cell? ⟨w.heap.size, 0, none⟩ = some (.int .i64 q) := by simp [go_sem]
  replace ha : (w.alloc (.cells #[.int .i64 q] 164)).cell? ⟨ab, 0, none⟩ = some (.int .i64 a) := (World.cell?_alloc_lt _ _ _ lt1).trans ha
  replace hr : (w.alloc (.cells #[.int .i64 q] 164)).cell? ⟨rb, 0, none⟩ = some (.pointer (some ⟨g, 0, none⟩)) := (World.cell?_alloc_lt _ _ _ lt2).trans hr
  have hng : w.heap.size ≠ g := by omega
  replace HM := Aside0.mk (HM.out.alloc (.cells #[.int .i64 q] 164))
  clear h0 h1 h2 f1 f2 lt1 lt2 lt3
  generalize w.alloc (.cells #[.int .i64 q] 164) = W at HM ha hr hnew ⊢
  generalize w.heap.size = nb at hnew hng ⊢
  obtain ⟨A, c, h0, h1, h2, f1, f2, _⟩ := Reader.look HM.out.rd
  go_region
  exact ⟨rfl, rfl, ((HM.out.set1 a).set2 q).drew⟩

/-- Where the reader has given up already, nothing is read. -/
theorem spent (g : Nat) (bs : List Int) (a err : Int) (w0 w : World) (f : Value) (hI : Rd w0 w g bs a err) (hB : Below w0.heap.size w0 w) (he : err ≠ 0) :
    Calls Tryz.prog 135 #[.pointer (some ⟨g, 0, none⟩), f] w fun e w' => e = .returned (.int .u64 0) ∧ Moved w0 w w' g bs a err := by
  have HM := Aside0.mk ((Moved.refl hI hB).alloc (.cells #[.pointer (some ⟨g, 0, none⟩)] 111))
  obtain ⟨A, c, h0, h1, h2, f1, f2, hmax⟩ := Reader.look hI
  have lt3 := World.block_lt_of_cell? w _ h0
  simp only at lt3
  replace h2 : (w.alloc (.cells #[.pointer (some ⟨g, 0, none⟩)] 111)).cell? ⟨g, 2, none⟩ = some (.int .i64 err) := (World.cell?_alloc_lt _ _ _ lt3).trans h2
  have b1 : (err != 0) = true := by simpa using he
  clear hI hB h0 h1 f1 f2
  go_enter_defers Tryz.func135, Tryz.ntmps135
  go_wp2_with fail
  exact ⟨_, results_tmp rfl _ _ _, rfl, HM.out⟩

/-- A block that is not the reader's stands. -/
theorem Moved.blk {w0 w w1 : World} {g k : Nat} {bs : List Int} {a e : Int} {o : Obj} (h : Moved w0 w w1 g bs a e) (hb : w.heap[k]? = some o) (hk : k ≠ g) : w1.heap[k]? = some o := (h.keep.2 k (blk_lt hb) hk (by simp)).trans hb
set_option maxHeartbeats 8000000 in
set_option maxRecDepth 100000 in
theorem went (g : Nat) (bs : List Int) (a n : Nat) (w0 w : World) (fst cap : Array Value) (V : Value → World → Prop) (hI : Rd w0 w g bs a 0) (hB : Below w0.heap.size w0 w)
    (hf : ∀ w1, Moved w0 w w1 g bs a 0 → Below w.heap.size w w1 → Calls Tryz.prog 132 (fst ++ cap) w1 fun e w' => ∃ v, e = .returned v ∧ Moved w0 w1 w' g bs n 0 ∧ V v w') :
    Calls Tryz.prog 135 #[.pointer (some ⟨g, 0, none⟩), .func (.func 132) fst cap] w fun e w' => ∃ v, e = .returned v ∧ Moved w0 w w' g bs n 0 ∧ V v w' := by
  have hmf : ∀ (fn : Fn) (first cap : Array Value) (w : World), (Instr.makeFunc fn first cap).run Tryz.prog w = .ok (.func fn first cap) w := fun _ _ _ _ => rfl
  have HM := Aside0.mk ((Moved.refl hI hB).alloc (.cells #[.pointer (some ⟨g, 0, none⟩)] 111))
  have HF := Aside0.mk hf
  obtain ⟨A, c, h0, h1, h2, f1, f2, hmax⟩ := Reader.look hI
  have lt3 := World.block_lt_of_cell? w _ h0
  simp only at lt3
  replace h1 : (w.alloc (.cells #[.pointer (some ⟨g, 0, none⟩)] 111)).cell? ⟨g, 1, none⟩ = some (.int .i64 a) := (World.cell?_alloc_lt _ _ _ lt3).trans h1
  replace h2 : (w.alloc (.cells #[.pointer (some ⟨g, 0, none⟩)] 111)).cell? ⟨g, 2, none⟩ = some (.int .i64 0) := (World.cell?_alloc_lt _ _ _ lt3).trans h2
  clear hI hB h0 f1 f2 hf
  go_enter_defers Tryz.func135, Tryz.ntmps135
  go_wp2_with (go_at_call 132; refine (HF.out _ (HM.out.alloc (.cells #[.int .i64 a] 3)) (below_alloc (below_alloc (Below.refl _ _) _) _)).mono ?_; rintro e w1 ⟨v, rfl, hm, hV⟩; have HM1 := Aside0.mk ((HM.out.alloc (.cells #[.int .i64 a] 3)).trans hm); have HV := Aside0.mk hV; clear hm hV)
  refine leaves_cons (f := 152) (args := #[.pointer (some ⟨w.heap.size + 1, 0, none⟩), .pointer (some ⟨w.heap.size, 0, none⟩)]) (by simp) (by simp [go_sem]) ?_
  refine (idle138 _ _ _).mono ?_
  rintro e u' w'' ⟨rfl, rfl, rfl⟩
  exact ⟨_, results_tmp rfl _ _ _, v, rfl, HM1.out, HV.out⟩

set_option maxHeartbeats 8000000 in
set_option maxRecDepth 100000 in
theorem gave (g : Nat) (bs : List Int) (a : Nat) (q : Int) (w0 w : World) (fst cap : Array Value) (hI : Rd w0 w g bs a 0) (hB : Below w0.heap.size w0 w)
    (hf : ∀ w1, Moved w0 w w1 g bs a 0 → Calls Tryz.prog 132 (fst ++ cap) w1 fun e w' => e = .panicked [fault q] ∧ ∃ m, Moved w0 w1 w' g bs m 0) :
    Calls Tryz.prog 135 #[.pointer (some ⟨g, 0, none⟩), .func (.func 132) fst cap] w fun e w' => e = .returned (.int .u64 0) ∧ Moved w0 w w' g bs a q := by
  have hmf : ∀ (fn : Fn) (first cap : Array Value) (w : World), (Instr.makeFunc fn first cap).run Tryz.prog w = .ok (.func fn first cap) w := fun _ _ _ _ => rfl
  have HM := Aside0.mk ((Moved.refl hI hB).alloc (.cells #[.pointer (some ⟨g, 0, none⟩)] 111))
  have HF := Aside0.mk hf
  obtain ⟨A, c, h0, h1, h2, f1, f2, hmax⟩ := Reader.look hI
  have lt3 := World.block_lt_of_cell? w _ h0
  simp only at lt3
  replace h1 : (w.alloc (.cells #[.pointer (some ⟨g, 0, none⟩)] 111)).cell? ⟨g, 1, none⟩ = some (.int .i64 a) := (World.cell?_alloc_lt _ _ _ lt3).trans h1
  replace h2 : (w.alloc (.cells #[.pointer (some ⟨g, 0, none⟩)] 111)).cell? ⟨g, 2, none⟩ = some (.int .i64 0) := (World.cell?_alloc_lt _ _ _ lt3).trans h2
  have BB : Aside0 (((w.alloc (.cells #[.pointer (some ⟨g, 0, none⟩)] 111)).alloc (.cells #[.int .i64 a] 3)).heap[w.heap.size]? = some (.cells #[.pointer (some ⟨g, 0, none⟩)] 111 (0, 0))) := ⟨blk_alloc (blk_new _ _) _⟩
  have BA : Aside0 (((w.alloc (.cells #[.pointer (some ⟨g, 0, none⟩)] 111)).alloc (.cells #[.int .i64 a] 3)).heap[w.heap.size + 1]? = some (.cells #[.int .i64 a] 3 (0, 0))) := ⟨by have := blk_new (w.alloc (.cells #[.pointer (some ⟨g, 0, none⟩)] 111)) (.cells #[.int .i64 a] 3); simpa using this⟩
  clear hI hB h0 f1 f2 hf
  go_enter_defers Tryz.func135, Tryz.ntmps135
  go_wp2_with (go_at_call 132; refine (HF.out _ (HM.out.alloc (.cells #[.int .i64 a] 3))).mono ?_; rintro e w1 ⟨rfl, m, hm⟩; have HM1 := Aside0.mk ((HM.out.alloc (.cells #[.int .i64 a] 3)).trans hm); have HB1 := Aside0.mk (Moved.blk hm BB.out (by omega)); have HA1 := Aside0.mk (Moved.blk hm BA.out (by omega)); clear hm)
  refine leaves_cons (f := 152) (args := #[.pointer (some ⟨w.heap.size + 1, 0, none⟩), .pointer (some ⟨w.heap.size, 0, none⟩)]) (by simp) (by simp [go_sem]) ?_
  refine (caught138 _ _ g bs a m q [] w0 _ HM1.out.rd HM1.out.below ((blk_cell HA1.out 0).trans rfl) ((blk_cell HB1.out 0).trans rfl) (by omega) (by omega)).mono ?_
  rintro e u' w'' ⟨rfl, rfl, hm⟩
  have HM2 := Aside0.mk (HM1.out.trans hm)
  clear hm
  simp [Leaves, settle, results, Tryz.results124]
  exact HM2.out
end Go.Proofs.YtjeaojolhdfpeaaGreat.Reader138

namespace Go.Proofs.YtjeaojolhdfpeaaGreat.Nums3
open Go.RowKit
set_option linter.unusedVariables false
set_option linter.unusedSimpArgs false

/-- The number with a sign that such a number stands for. -/
def unzig (x : Int) : Int := if x % 2 = 0 then x / 2 else -(x / 2) - 1
/-- int64(x>>1) ^ -int64(x&1). -/
theorem unzag (x : Int) (hx : 0 ≤ x ∧ x < 18446744073709551616) : bits .xor .i64 (x / 2) (wrap64 (-wrap64 (bits .and .u64 x 1))) = unzig x := by
  obtain ⟨n, rfl⟩ := Int.eq_ofNat_of_zero_le hx.1
  have h1 : bits .and .u64 (n : Int) 1 = ((n % 2 : Nat) : Int) := by
    have h := u64_and_nat n 1 (by omega) (by omega)
    rw [show ((1 : Nat) : Int) = 1 from rfl] at h
    rw [h, Nat.and_one_is_mod]
  rw [h1]
  unfold unzig
  rcases Nat.mod_two_eq_zero_or_one n with e | e
  · rw [e, if_pos (by omega)]
    have hz : wrap64 (-wrap64 ((0 : Nat) : Int)) = 0 := by unfold wrap64; omega
    rw [hz]
    show IntKind.i64.wrap ((BitVec.ofInt 64 ((n : Int) / 2) ^^^ BitVec.ofInt 64 0).toNat : Int) = _
    have h0 : BitVec.ofInt 64 0 = 0#64 := by decide
    rw [h0, BitVec.xor_zero, BitVec.toNat_ofInt, IntKind.wrap_i64]
    omega
  · rw [e, if_neg (by omega)]
    have hz : wrap64 (-wrap64 ((1 : Nat) : Int)) = -1 := by unfold wrap64; omega
    rw [hz]
    show IntKind.i64.wrap ((BitVec.ofInt 64 ((n : Int) / 2) ^^^ BitVec.ofInt 64 (-1)).toNat : Int) = _
    have h0 : BitVec.ofInt 64 (-1) = BitVec.allOnes 64 := by decide
    rw [h0, BitVec.xor_allOnes, BitVec.toNat_not, BitVec.toNat_ofInt, IntKind.wrap_i64]
    omega
end Go.Proofs.YtjeaojolhdfpeaaGreat.Nums3
