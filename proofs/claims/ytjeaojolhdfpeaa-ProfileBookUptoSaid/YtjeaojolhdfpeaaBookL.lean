/- ProfileBook: the reference's New is what a book holds at the beginning; where the law stands between its notes. No program is walked. -/
import Derived.Test.YtjeaojolhdfpeaaBookW
import Derived.Test.YtjeaojolhdfpeaaBookT
namespace Go.Proofs.Ytjeaojolhdfpeaa.BookL
open Go.RowKit Go.Maps Go.Proofs.YtjeaojolhdfpeaaW.PrintWords Go.Proofs.YtjeaojolhdfpeaaW.PrintLast Go.Proofs.YtjeaojolhdfpeaaW.PrintMore
open Go.Proofs.Ytjeaojolhdfpeaa.PProfileBook Go.Proofs.Ytjeaojolhdfpeaa.BookB Go.Proofs.Ytjeaojolhdfpeaa.BookN Go.Proofs.Ytjeaojolhdfpeaa.BookO Go.Proofs.Ytjeaojolhdfpeaa.BookU Go.Proofs.Ytjeaojolhdfpeaa.BookP Go.Proofs.Ytjeaojolhdfpeaa.BookT
set_option linter.unusedVariables false
set_option linter.unusedSimpArgs false

/-! ### The reference's New -/
theorem ref_at (l : List (List S28)) (i j : Nat) : portageref18_At.f l (i : Int) (j : Int) = some ((gt l i j).f0, (gt l i j).f1, (gt l i j).f2, (gt l i j).f3) := by
  have e3 : rd_L3 l (i : Int) = rw_ l i := rfl
  unfold portageref18_At.f
  rw [if_neg (by omega), e3]
  by_cases h1 : i < l.length
  · rw [if_neg (by omega), if_neg (by omega), if_pos (by omega), if_pos (by omega)]
    by_cases h2 : j < (rw_ l i).length
    · rw [if_neg (by omega), if_pos (by omega), if_pos (by omega)]
      rfl
    · rw [if_pos (by omega)]
      have : gt l i j = z28 := by simp [gt, List.getD_eq_getElem?_getD, List.getElem?_eq_none (Nat.not_lt.1 h2)]
      rw [this]
      rfl
  · rw [if_pos (by omega)]
    have : gt l i j = z28 := by
      have : rw_ l i = [] := by simp [rw_, List.getD_eq_getElem?_getD, List.getElem?_eq_none (Nat.not_lt.1 h1)]
      simp [gt, this]
    rw [this]
    rfl
theorem new_l1 (gl : List S228) (fs : List S119) (l : List (List S28)) (hl : fs.length ≤ 1048576) (i : Nat) (hi : i < fs.length) (hn : cl fs i ≤ 1048576)
    (hnext : Ev (fun k => portageref18_New.l0 k ((i + 1 : Nat) : Int) gl fs l (newF fs l (i + 1))) (newF fs l fs.length)) (d : Nat) : ∀ j : Nat, j ≤ cl fs i → cl fs i - j = d → Ev (fun k => portageref18_New.l1 k (i : Int) ((List.range j).map (gt l i)) (j : Int) gl fs l (newF fs l i)) (newF fs l fs.length) := by
  have ec : (rd_T119 fs (i : Int)).f3.length = cl fs i := rfl
  induction d with
  | zero =>
    intro j hj hd
    obtain rfl : j = cl fs i := by omega
    refine Ev.step (fun k => ?_) hnext
    simp only [portageref18_New.l1]
    rw [ec, if_pos (show (0 : Int) ≤ (i : Int) by omega), if_pos (show (i : Int) < (fs.length : Int) by omega), if_neg (Int.lt_irrefl _), if_pos (by rw [newF_len]; omega), ← newF_succ, wrap_nat i _ hi (by omega)]
  | succ d ih =>
    intro j hj hd
    refine Ev.step (fun k => ?_) (ih (j + 1) (by omega) (by omega))
    simp only [portageref18_New.l1]
    rw [ec, if_pos (show (0 : Int) ≤ (i : Int) by omega), if_pos (show (i : Int) < (fs.length : Int) by omega), if_pos (show (j : Int) < (cl fs i : Int) by omega), ref_at, Option.bind_some, if_pos (by rw [List.length_map, List.length_range]; omega), wrap_nat j (cl fs i) (by omega) (by omega), List.range_succ, List.map_append]
    rfl
theorem new_l0 (gl : List S228) (fs : List S119) (l : List (List S28)) (hl : fs.length ≤ 1048576) (hn : ∀ i, i < fs.length → cl fs i ≤ 1048576) (d : Nat) : ∀ i : Nat, i ≤ fs.length → fs.length - i = d → Ev (fun k => portageref18_New.l0 k (i : Int) gl fs l (newF fs l i)) (newF fs l fs.length) := by
  induction d with
  | zero =>
    intro i hi hd
    obtain rfl : i = fs.length := by omega
    refine Ev.step (fun k => ?_) (Ev.now _)
    simp only [portageref18_New.l0]
    rw [if_neg (by omega)]
  | succ d ih =>
    intro i hi hd
    refine Ev.step (fun k => ?_) (new_l1 gl fs l hl i (by omega) (hn i (by omega)) (ih (i + 1) (by omega) (by omega)) _ 0 (Nat.zero_le _) rfl)
    simp only [portageref18_New.l0]
    rw [if_pos (by omega)]
    rfl
theorem cl_tot (fs : List S119) {i : Nat} (h : i < fs.length) : cl fs i ≤ tot fs fs.length := by
  have h2 := tot_le fs (show i + 1 ≤ fs.length from h)
  simp only [tot] at h2
  omega
theorem ref_new (gl : List S228) (fs : List S119) (l : List (List S28)) (hl : fs.length ≤ 1048576) (ht : tot fs fs.length ≤ 1048576) : ∃ k, portageref18_New.f k gl fs l = some (newF fs l fs.length) :=
  (new_l0 gl fs l hl (fun i hi => Nat.le_trans (cl_tot fs hi) ht) _ 0 (Nat.zero_le _) rfl).rounds

/-! ### Numbers in their range -/
def Rg (F : List (List S28)) : Prop := ∀ i j, -9223372036854775808 ≤ (gt F i j).f0 ∧ (gt F i j).f0 ≤ 9223372036854775807
theorem Rg.note {F : List (List S28)} (h : Rg F) (fn pc : Int) (l : List S137) (callee : Int) : Rg (noteF F fn pc l callee) := by
  unfold noteF
  split
  · rename_i hc
    intro i j
    rw [gt_st ⟨by omega, by omega⟩]
    split
    · have := h fn.toNat pc.toNat
      simp only [spN, cnP]
      split <;> omega
    · exact h i j
  · exact h
theorem Rg.new {l : List (List S28)} (h : Rg l) (fs : List S119) (n : Nat) : Rg (newF fs l n) := by
  intro i j
  have hz : -9223372036854775808 ≤ z28.f0 ∧ z28.f0 ≤ 9223372036854775807 := by decide
  unfold gt rw_ newF
  simp only [List.getD_eq_getElem?_getD, List.getElem?_map]
  by_cases h1 : i < n
  · simp only [List.getElem?_range h1, Option.map_some, Option.getD_some, List.getElem?_map]
    by_cases h2 : j < cl fs i
    · simp only [List.getElem?_range h2, Option.map_some, Option.getD_some]
      exact h i j
    · rw [List.getElem?_eq_none (by simpa using h2)]
      exact hz
  · rw [show (List.range n)[i]? = none from List.getElem?_eq_none (by simpa using h1)]
    exact hz

/-! ### A note as it comes -/
structure Nt where
  on : Int
  fn : Int
  pc : Int
  args : List S137
  callee : Int
  ask : Bool
def zNt : Nt := ⟨0, 0, 0, [], 0, false⟩
def kNt : Kd Nt := Kd.iso (Kd.pair (Kd.int .i64) (Kd.pair (Kd.int .i64) (Kd.pair (Kd.int .i64) (Kd.pair (Kd.slice 137 k137) (Kd.pair (Kd.int .i64) Kd.bool))))) (fun x : Nt => (x.on, x.fn, x.pc, x.args, x.callee, x.ask))
theorem kNt_open {w : World} {x : Nt} {cs : List Value} (h : kNt.K w x cs) : ∃ A c, cs = [.int .i64 x.on, .int .i64 x.fn, .int .i64 x.pc, .slice A x.args.length c, .int .i64 x.callee, .bool x.ask] ∧ x.args.length ≤ c ∧ k137.C w A x.args.length x.args := by
  obtain ⟨_, _, rfl, rfl, ⟨_, _, rfl, rfl, ⟨_, _, rfl, rfl, ⟨_, _, rfl, ⟨A, c, rfl, l, g⟩, ⟨_, _, rfl, rfl, rfl⟩⟩⟩⟩⟩ := h
  exact ⟨A, c, rfl, l, g⟩
def rdN (xs : List Nt) (i : Int) : Nt := xs.getD i.toNat zNt
theorem at_Nt {w : World} {A : Option Addr} {n : Nat} {xs : List Nt} (h : Kd.C kNt w A n xs) (i : Int) (h0 : 0 ≤ i) (h1 : i < n) : ∃ ad A3 c3, A = some ad ∧ w.cell? (ad.add (i.toNat * 6)) = some (.int .i64 (rdN xs i).on) ∧
    w.cell? ⟨(ad.add (i.toNat * 6)).block, (ad.add (i.toNat * 6)).off + 1, none⟩ = some (.int .i64 (rdN xs i).fn) ∧ w.cell? ⟨(ad.add (i.toNat * 6)).block, (ad.add (i.toNat * 6)).off + 2, none⟩ = some (.int .i64 (rdN xs i).pc) ∧
    w.cell? ⟨(ad.add (i.toNat * 6)).block, (ad.add (i.toNat * 6)).off + 3, none⟩ = some (.slice A3 (rdN xs i).args.length c3) ∧ w.cell? ⟨(ad.add (i.toNat * 6)).block, (ad.add (i.toNat * 6)).off + 4, none⟩ = some (.int .i64 (rdN xs i).callee) ∧
    w.cell? ⟨(ad.add (i.toNat * 6)).block, (ad.add (i.toNat * 6)).off + 5, none⟩ = some (.bool (rdN xs i).ask) ∧ (rdN xs i).args.length ≤ c3 ∧ k137.C w A3 (rdN xs i).args.length (rdN xs i).args := by
  obtain ⟨ad, c, e, _, hK, hc0⟩ := Kd.C_get h zNt i h0 h1
  have hc : ∀ j u, c[j]? = some u → w.cell? (ad.add (i.toNat * 6 + j)) = some u := hc0
  obtain ⟨A3, c3, rfl, l3, g3⟩ := kNt_open hK
  exact ⟨ad, A3, c3, e, by have hq := hc 0 _ rfl; rwa [Nat.add_zero] at hq, by have hq := hc 1 _ rfl; rwa [add_field _ _ _ (by decide)] at hq, by have hq := hc 2 _ rfl; rwa [add_field _ _ _ (by decide)] at hq, by have hq := hc 3 _ rfl; rwa [add_field _ _ _ (by decide)] at hq,
    by have hq := hc 4 _ rfl; rwa [add_field _ _ _ (by decide)] at hq, by have hq := hc 5 _ rfl; rwa [add_field _ _ _ (by decide)] at hq, l3, g3⟩

/-! ### Where the law stands -/
theorem Turn.of_kept {B : Nat} {w0 W W1 : World} {S : Nat → Prop} (h : Below B w0 W) (h1 : Below B w0 W1) (hk : Kept W W1 S) : Turn W W1 S :=
  ⟨h1.os.trans h.os.symm, h1.tape.trans h.tape.symm, h1.output.trans h.output.symm, hk⟩
structure LA (w0 W : World) (bpa bpb g15 g16 : Nat) (Sa Sb : Nat → Prop) (F G Fr Gr : List (List S28)) (Na Nb : Nat) (vf vg : Value) : Prop where
  below : Below w0.heap.size w0 W
  ba : Bk W Sa bpa F Na
  bb : Bk W Sb bpb G Nb
  sa : ∀ k, Sa k → (w0.heap.size ≤ k ∧ k < W.heap.size) ∧ ¬ Sb k
  sb : ∀ k, Sb k → w0.heap.size ≤ k ∧ k < W.heap.size
  b15 : W.heap[g15]? = some (.cells #[vf] 24 (0, 0)) ∧ ¬ Sa g15 ∧ ¬ Sb g15
  b16 : W.heap[g16]? = some (.cells #[vg] 24 (0, 0)) ∧ ¬ Sa g16 ∧ ¬ Sb g16
  rf : Kd.R kr 77 W w0.heap.size (fun k => ¬ Sa k ∧ ¬ Sb k) vf Fr
  rg : Kd.R kr 77 W w0.heap.size (fun k => ¬ Sa k ∧ ¬ Sb k) vg Gr
  ff : Rg F
  gg : Rg G
  gl : w0.heap.size ≤ g15 ∧ w0.heap.size ≤ g16 ∧ g15 ≠ g16
section
variable {w0 W W1 : World} {bpa bpb g15 g16 : Nat} {Sa Sb S' : Nat → Prop} {F G Fr Gr F1 : List (List S28)} {Na Nb : Nat} {vf vg v1 : Value}
theorem LA.next (h : LA w0 W bpa bpb g15 g16 Sa Sb F G Fr Gr Na Nb vf vg) (hb : Below W.heap.size W W1) : LA w0 W1 bpa bpb g15 g16 Sa Sb F G Fr Gr Na Nb vf vg :=
  ⟨below_step h.below hb, h.ba.turn (Turn.of_below hb (fun _ => False)) (fun _ _ h => h), h.bb.turn (Turn.of_below hb (fun _ => False)) (fun _ _ h => h), fun k hk => ⟨⟨(h.sa k hk).1.1, Nat.lt_of_lt_of_le (h.sa k hk).1.2 hb.size⟩, (h.sa k hk).2⟩, fun k hk => ⟨(h.sb k hk).1, Nat.lt_of_lt_of_le (h.sb k hk).2 hb.size⟩,
    ⟨blk_below h.b15.1 hb, h.b15.2⟩, ⟨blk_below h.b16.1 hb, h.b16.2⟩, Kd.R_below h.rf hb, Kd.R_below h.rg hb, h.ff, h.gg, h.gl⟩
/-- The reference's next answer for the first book has been stored. -/
theorem LA.setF (h : LA w0 W bpa bpb g15 g16 Sa Sb F G Fr Gr Na Nb vf vg) (hb : Below W.heap.size W W1) (hr : Kd.R kr 77 W1 W.heap.size (fun _ => True) v1 F1) : LA w0 (W1.setCell ⟨g15, 0, none⟩ v1) bpa bpb g15 g16 Sa Sb F G F1 Gr Na Nb v1 vg := by
  have h1 := h.next hb
  have t : Turn W1 (W1.setCell ⟨g15, 0, none⟩ v1) (fun k => k = g15) := Turn.set W1 ⟨g15, 0, none⟩ v1 (S := fun k => k = g15) rfl
  have hs : (W1.setCell ⟨g15, 0, none⟩ v1).heap.size = W1.heap.size := by simp [World.setCell]
  refine ⟨below_set h1.below h.gl.1, h1.ba.turn t (fun k hk e => h.b15.2.1 (e ▸ hk)), h1.bb.turn t (fun k hk e => h.b15.2.2 (e ▸ hk)), fun k hk => by rw [hs]; exact h1.sa k hk, fun k hk => by rw [hs]; exact h1.sb k hk, ⟨blk_put h1.b15.1 0 v1 rfl, h.b15.2⟩, ⟨blk_far h1.b16.1 (p := ⟨g15, 0, none⟩) (Ne.symm h.gl.2.2) v1, h.b16.2⟩, ?_, Kd.R_set h1.rg h1.b15.1 (by decide) 0 v1, h.ff, h.gg, h.gl⟩
  refine Kd.R_lower (Kd.R_set (Kd.R_mono (Kd.R_bound hr) (fun k hk => ⟨fun e => ?_, fun e => ?_⟩)) h1.b15.1 (by decide) 0 v1) h.below.size
  · have := (h.sa k e).1.2
    have := hk.2.1
    omega
  · have := (h.sb k e).2
    have := hk.2.1
    omega
theorem LA.setG (h : LA w0 W bpa bpb g15 g16 Sa Sb F G Fr Gr Na Nb vf vg) (hb : Below W.heap.size W W1) (hr : Kd.R kr 77 W1 W.heap.size (fun _ => True) v1 F1) : LA w0 (W1.setCell ⟨g16, 0, none⟩ v1) bpa bpb g15 g16 Sa Sb F G Fr F1 Na Nb vf v1 := by
  have h1 := h.next hb
  have t : Turn W1 (W1.setCell ⟨g16, 0, none⟩ v1) (fun k => k = g16) := Turn.set W1 ⟨g16, 0, none⟩ v1 (S := fun k => k = g16) rfl
  have hs : (W1.setCell ⟨g16, 0, none⟩ v1).heap.size = W1.heap.size := by simp [World.setCell]
  refine ⟨below_set h1.below h.gl.2.1, h1.ba.turn t (fun k hk e => h.b16.2.1 (e ▸ hk)), h1.bb.turn t (fun k hk e => h.b16.2.2 (e ▸ hk)), fun k hk => by rw [hs]; exact h1.sa k hk, fun k hk => by rw [hs]; exact h1.sb k hk, ⟨blk_far h1.b15.1 (p := ⟨g16, 0, none⟩) h.gl.2.2 v1, h.b15.2⟩, ⟨blk_put h1.b16.1 0 v1 rfl, h.b16.2⟩, Kd.R_set h1.rf h1.b16.1 (by decide) 0 v1, ?_, h.ff, h.gg, h.gl⟩
  refine Kd.R_lower (Kd.R_set (Kd.R_mono (Kd.R_bound hr) (fun k hk => ⟨fun e => ?_, fun e => ?_⟩)) h1.b16.1 (by decide) 0 v1) h.below.size
  · have := (h.sa k e).1.2
    have := hk.2.1
    omega
  · have := (h.sb k e).2
    have := hk.2.1
    omega
/-- A note has been made in the first book. -/
theorem LA.toldA (h : LA w0 W bpa bpb g15 g16 Sa Sb F G Fr Gr Na Nb vf vg) {M : Nat} (hB : Bk W1 S' bpa F1 M) (hs : ∀ k, S' k → Sa k ∨ W.heap.size ≤ k) (ht : Turn W W1 Sa) (hf : Rg F1) : LA w0 W1 bpa bpb g15 g16 (fun k => S' k ∧ k < W1.heap.size) Sb F1 G Fr Gr M Nb vf vg := by
  have na : ∀ k, k < W.heap.size → ¬ Sa k → ¬ (S' k ∧ k < W1.heap.size) := fun k hk hn h2 => (hs k h2.1).elim hn (fun h3 => by omega)
  have hw := h.below.size
  refine ⟨h.below.trans (ht.below (fun k hk => (h.sa k hk).1.1) hw), Bk.shrink hB, h.bb.turn ht (fun k hk e => (h.sa k e).2 hk), fun k hk => ⟨⟨(hs k hk.1).elim (fun h2 => (h.sa k h2).1.1) (fun h2 => by omega), hk.2⟩, (hs k hk.1).elim (fun h2 => (h.sa k h2).2) (fun h2 h3 => by have := (h.sb k h3).2; omega)⟩,
    fun k hk => ⟨(h.sb k hk).1, Nat.lt_of_lt_of_le (h.sb k hk).2 ht.size⟩, ⟨ht.heap h.b15.1 h.b15.2.1, na _ (blk_lt h.b15.1) h.b15.2.1, h.b15.2.2⟩, ⟨ht.heap h.b16.1 h.b16.2.1, na _ (blk_lt h.b16.1) h.b16.2.1, h.b16.2.2⟩,
    Kd.R_mono (Kd.R_kept (Kd.R_bound h.rf) ht.kept (fun k hk => hk.1.1)) (fun k hk => ⟨na k hk.2.2.1 hk.1.1, hk.1.2⟩), Kd.R_mono (Kd.R_kept (Kd.R_bound h.rg) ht.kept (fun k hk => hk.1.1)) (fun k hk => ⟨na k hk.2.2.1 hk.1.1, hk.1.2⟩), hf, h.gg, h.gl⟩
/-- A note has been made in the second. -/
theorem LA.toldB (h : LA w0 W bpa bpb g15 g16 Sa Sb F G Fr Gr Na Nb vf vg) {M : Nat} (hB : Bk W1 S' bpb F1 M) (hs : ∀ k, S' k → Sb k ∨ W.heap.size ≤ k) (ht : Turn W W1 Sb) (hf : Rg F1) : LA w0 W1 bpa bpb g15 g16 Sa (fun k => S' k ∧ k < W1.heap.size) F F1 Fr Gr Na M vf vg := by
  have na : ∀ k, k < W.heap.size → ¬ Sb k → ¬ (S' k ∧ k < W1.heap.size) := fun k hk hn h2 => (hs k h2.1).elim hn (fun h3 => by omega)
  have hw := h.below.size
  refine ⟨h.below.trans (ht.below (fun k hk => (h.sb k hk).1) hw), h.ba.turn ht (fun k hk e => (h.sa k hk).2 e), Bk.shrink hB, fun k hk => ⟨⟨(h.sa k hk).1.1, Nat.lt_of_lt_of_le (h.sa k hk).1.2 ht.size⟩, na k (h.sa k hk).1.2 (h.sa k hk).2⟩,
    fun k hk => ⟨(hs k hk.1).elim (fun h2 => (h.sb k h2).1) (fun h2 => by omega), hk.2⟩, ⟨ht.heap h.b15.1 h.b15.2.2, h.b15.2.1, na _ (blk_lt h.b15.1) h.b15.2.2⟩, ⟨ht.heap h.b16.1 h.b16.2.2, h.b16.2.1, na _ (blk_lt h.b16.1) h.b16.2.2⟩,
    Kd.R_mono (Kd.R_kept (Kd.R_bound h.rf) ht.kept (fun k hk => hk.1.2)) (fun k hk => ⟨hk.1.1, na k hk.2.2.1 hk.1.2⟩), Kd.R_mono (Kd.R_kept (Kd.R_bound h.rg) ht.kept (fun k hk => hk.1.2)) (fun k hk => ⟨hk.1.1, na k hk.2.2.1 hk.1.2⟩), h.ff, hf, h.gl⟩
end
end Go.Proofs.Ytjeaojolhdfpeaa.BookL
