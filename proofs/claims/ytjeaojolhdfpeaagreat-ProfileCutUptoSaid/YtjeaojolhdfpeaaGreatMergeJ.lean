/- Merge: where it stands. -/
import Derived.Test.YtjeaojolhdfpeaaGreatBookP
import Derived.Test.YtjeaojolhdfpeaaGreatMergeP
import Derived.OwnWalk
namespace Go.Proofs.YtjeaojolhdfpeaaGreat.MergeJ
open Go.RowKit Go.Maps Go.Proofs.YtjeaojolhdfpeaaGreatW.PrintWords Go.Proofs.YtjeaojolhdfpeaaGreatW.PrintLast Go.Proofs.YtjeaojolhdfpeaaGreatW.PrintMore
open Go.Proofs.YtjeaojolhdfpeaaGreat.PProfileCut Go.Proofs.YtjeaojolhdfpeaaGreat.BookB Go.Proofs.YtjeaojolhdfpeaaGreat.BookP Go.Proofs.YtjeaojolhdfpeaaGreat.MergeP
set_option linter.unusedVariables false
set_option linter.unusedSimpArgs false
theorem maxN (k k' : IntKind) (x y : Int) : Builtin.max2 (.int k x) (.int k' y) = pure (.int k (max x y)) := by
  rw [max2_int]
  congr 2
  split <;> omega
attribute [local go_sem] maxN max_two

theorem rg64 {l : List (List S51)} (h : ∀ x ∈ l, ∀ s ∈ x, I64 s.f0) : ∀ i j, I64 (gt l i j).f0 := by
  intro i j
  unfold gt rw_
  simp only [List.getD_eq_getElem?_getD]
  by_cases h1 : i < l.length
  · rw [List.getElem?_eq_getElem h1, Option.getD_some]
    by_cases h2 : j < l[i].length
    · rw [List.getElem?_eq_getElem h2, Option.getD_some]
      exact h _ (List.getElem_mem h1) _ (List.getElem_mem h2)
    · rw [List.getElem?_eq_none (by omega)]
      decide
  · rw [show l[i]? = none from List.getElem?_eq_none (by omega)]
    show -9223372036854775808 ≤ z51.f0 ∧ z51.f0 ≤ 9223372036854775807
    decide
theorem len64 {l : List (List S51)} {m : Nat} (h : ∀ x ∈ l, x.length ≤ m) (i : Nat) : (rw_ l i).length ≤ m := by
  unfold rw_
  rw [List.getD_eq_getElem?_getD]
  by_cases h1 : i < l.length
  · rw [List.getElem?_eq_getElem h1, Option.getD_some]
    exact h _ (List.getElem_mem h1)
  · rw [List.getElem?_eq_none (by omega)]
    exact Nat.zero_le _
theorem nAt_0 (a b : List (List S51)) (k : Nat) : max ((nAt a b k 0 : Nat) : Int) ((rd_L3 a (k : Int)).length : Int) = ((nAt a b k 1 : Nat) : Int) := by
  have e : rd_L3 a (k : Int) = rw_ a k := rfl
  rw [e]
  show max ((0 : Nat) : Int) ((rw_ a k).length : Int) = ((rw_ a k).length : Int)
  omega
theorem nAt_1 (a b : List (List S51)) (k : Nat) : max ((nAt a b k 1 : Nat) : Int) ((rd_L3 b (k : Int)).length : Int) = ((nAt a b k 2 : Nat) : Int) := by
  have e : rd_L3 b (k : Int) = rw_ b k := rfl
  rw [e]
  show max ((rw_ a k).length : Int) ((rw_ b k).length : Int) = ((max (rw_ a k).length (rw_ b k).length : Nat) : Int)
  omega
theorem nAt_0' {a b : List (List S51)} {k : Nat} (h : a.length ≤ k) : nAt a b k 0 = nAt a b k 1 := by
  show 0 = (rw_ a k).length
  rw [rw_none h]
  rfl
theorem nAt_1' {a b : List (List S51)} {k : Nat} (h : b.length ≤ k) : nAt a b k 1 = nAt a b k 2 := by
  show (rw_ a k).length = max (rw_ a k).length (rw_ b k).length
  rw [rw_none h]
  simp
/-- Where Merge stands. -/
structure MS (w : World) (va vb v : Value) (R : List (List S51)) (ok : Nat → Prop) (W : World) : Prop where
  ba : W.heap[w.heap.size]? = some (.cells #[va] 25 (0, 0))
  bb : W.heap[w.heap.size + 1]? = some (.cells #[vb] 25 (0, 0))
  b4 : W.heap[w.heap.size + 1 + 1]? = some (.cells #[.slice none 0 0] 25 (0, 0))
  b5 : W.heap[w.heap.size + 1 + 1 + 1]? = some (.cells #[v] 25 (0, 0))
  rows : Kd.S kr 53 W w.heap.size ok v R
  below : Below w.heap.size w W
theorem MS.next {w W W1 : World} {va vb v : Value} {R : List (List S51)} {ok : Nat → Prop} (h : MS w va vb v R ok W) (hb : Below W.heap.size W W1) : MS w va vb v R ok W1 :=
  ⟨blk_below h.ba hb, blk_below h.bb hb, blk_below h.b4 hb, blk_below h.b5 hb, Kd.S_below h.rows hb, below_step h.below hb⟩
section
variable {P : Program} {ops : Array Oper} {rest : List Oper} {o : Oper} {a : Act} {Q : Exit → Act → World → Prop} {α : Type}
theorem S_append (d : Kd α) {w0 W : World} (base : Nat) (hgd : o.guard = none) (s x : Operand) (t e : TypeId) (z : Value) (bytes : Nat)
    (ho : o.op = .call { callee := .builtin .append, args := #[s, x], argTypes := #[t, t] })
    (ht : P.underlying t = some (.slice e)) (hinfo : (P.info? e).map (fun i => (i.zero, i.size, i.bytes)) = some (some z, d.sz, bytes)) (hz : z.cells.size = d.sz) (hs0 : 0 < d.sz) (hb0 : 0 < bytes)
    (v : Value) (xs : List α) (p : α) (cs : List Value) (ok okp : Nat → Prop) (hs : a.eval s = v) (hx : a.eval x = .slice (some ⟨W.heap.size, 0, none⟩) 1 1) (hp : d.M W base okp p cs) (hokp : ∀ k, okp k → ok k ∧ some k ≠ v.ownBlock) (hfresh : ∀ k, W.heap.size ≤ k → ok k)
    (HO : Kd.S d e W base (fun k => ok k ∧ ¬ okp k) v xs) (HB : Below base w0 W) (hbase : base ≤ W.heap.size) (hl : (xs.length + 1) * bytes ≤ 140737488355328)
    (h : ∀ v1 w1, Kd.S d e w1 base ok v1 (xs ++ [p]) → Below base w0 w1 → W.grownBy w1 v.ownBlock → (v1.ownBlock = v.ownBlock ∨ ∃ b, v1.ownBlock = some b ∧ W.heap.size ≤ b) → wpList P ops Q rest (a.put o.dst v1) w1) :
    wpList P ops Q (o :: rest) a (W.alloc (.cells cs.toArray e)) := by
  obtain ⟨f, hf, hR⟩ := Kd.S_tag HO xs.length okp (fun _ hk h2 => h2.2 hk)
  refine Kd.R_append (Kd.tag f d) base hgd s x t e z bytes ho ht hinfo hz hs0 hb0 v xs.zipIdx (p, xs.length) cs ok okp hs hx (d.M_mono (fun k hk => ⟨hk, hf k hk⟩) hp) hokp hfresh (Kd.R_mono hR (fun _ hk => hk.1)) HB hbase (by rw [List.length_zipIdx]; exact hl) ?_
  intro v1 w1 hr
  rw [← Kd.zip_snoc] at hr
  exact h v1 w1 ⟨f, hr⟩
end
theorem MS.grown {w W W1 : World} {va vb v : Value} {R : List (List S51)} {ok : Nat → Prop} (h : MS w va vb v R ok W) {g : Nat} {cells : Array Value} (hg : W.grownBy W1 (some g)) (hc : W.heap[g]? = some (.cells cells 51 (0, 0))) (hok : ∀ k, ok k → k ≠ g) (hge : w.heap.size ≤ g) : MS w va vb v R ok W1 :=
  ⟨blk_grown h.ba hg (fun e => blk_ne h.ba hc (by decide) (by injection e)), blk_grown h.bb hg (fun e => blk_ne h.bb hc (by decide) (by injection e)), blk_grown h.b4 hg (fun e => blk_ne h.b4 hc (by decide) (by injection e)), blk_grown h.b5 hg (fun e => blk_ne h.b5 hc (by decide) (by injection e)),
    Kd.S_grown h.rows hg (fun k hk e => hok k hk (by injection e)), h.below.grown hg h.below.size (fun k hk => by cases hk; exact hge)⟩
theorem MS.bound {w W : World} {va vb v : Value} {R : List (List S51)} (h : MS w va vb v R (fun _ => True) W) : MS w va vb v R (fun q => q < W.heap.size) W :=
  ⟨h.ba, h.bb, h.b4, h.b5, Kd.S_mono (Kd.S_bound h.rows) (fun _ hk => hk.2.2.1), h.below⟩
/-- One spot of a row of one's own is written. -/
theorem row_put {W : World} {base g n c : Nat} {ok : Nat → Prop} {xs : List S51} (hr : Kd.R k51 51 W base ok (.slice (some ⟨g, 0, none⟩) n c) xs) {j : Nat} (hj : j < n) (s : S51) :
    (∀ {o : Oper} {a : Act} (p q : Operand), o.op = .store 51 p q → a.eval p = .pointer (some ⟨g, j * 4, none⟩) → a.eval q = .agg (spc s) → (execOp a.eval o).run Tryz.prog W = .ok .skip (W.setCells g (j * 4) (spc s).toList)) ∧
      Kd.R k51 51 (W.setCells g (j * 4) (spc s).toList) base ok (.slice (some ⟨g, 0, none⟩) n c) (xs.set j s) ∧ W.grownBy (W.setCells g (j * 4) (spc s).toList) (some g) := by
  have hsz : k51.sz = 4 := rfl
  have hrow : (spc s).toList.length = 4 := rfl
  have hone : ∀ u ∈ (spc s).toList, u.oneCell' = true := by
    intro u hu
    simp [spc] at hu
    rcases hu with rfl | rfl | rfl | rfl <;> rfl
  refine ⟨fun {o a} p q ho hp hq => ?_, ?_⟩
  · have h3 := R_store_skip k51 51 p q ho 51 j 0 xs (.agg (spc s)) (spc s).toList ok (by rw [hp]) (by rw [hsz, Nat.add_zero]) hq rfl (by kernel_rfl) hone hr hj (by rw [hrow, hsz]; omega)
    rw [hsz, Nat.add_zero] at h3
    exact h3
  · obtain ⟨cs2, hcl2, _, hcc2, _⟩ := Kd.R_elem hr z51 (j : Int) (by omega) (by omega)
    have hM : k51.M W base (fun _ => False) s (cs2.take 0 ++ (spc s).toList ++ cs2.drop (0 + (spc s).toList.length)) := by
      rw [hrow, Nat.zero_add, List.drop_of_length_le (by rw [hcl2, hsz]; omega), List.take_zero, List.nil_append, List.append_nil]
      exact k51_mkM _ _ _ s
    obtain ⟨h2, h4⟩ := Kd.R_seg hr (j : Int) (by omega) (by omega) (j := 0) (seg := (spc s).toList) (okp := fun _ => False) hcl2 hcc2 (by rw [hrow, hsz]; omega) hM (fun q hq => hq.elim)
    rw [Int.toNat_natCast, hsz, Nat.add_zero] at h2 h4
    exact ⟨h2, h4⟩
/-- A new block of one spot is a row of one. -/
theorem row_new (W : World) {base : Nat} (hb : base ≤ W.heap.size) (x : S51) : Kd.R k51 51 (W.alloc (.cells (spc x) 51)) base (fun q => q = W.heap.size) (.slice (some ⟨W.heap.size, 0, none⟩) 1 1) [x] := by
  have hr : Reps (k51.M (W.alloc (.cells (spc x) 51)) base fun k => k = W.heap.size ∧ some k ≠ (Value.slice (some ⟨W.heap.size, 0, none⟩) 1 1).ownBlock) 4 [x] (spc x).toList := by
    have h := (Reps.none (k51.M (W.alloc (.cells (spc x) 51)) base fun k => k = W.heap.size ∧ some k ≠ (Value.slice (some ⟨W.heap.size, 0, none⟩) 1 1).ownBlock) 4).snoc (p := x) (c := (spc x).toList) (k51_mkM _ _ _ x) rfl
    simpa using h
  exact ⟨fun k hk => by
    have : W.heap.size = k := by simpa [Value.ownBlock] using hk
    exact this.symm, OwnRow.lit W base hr hb (by simp)⟩
/-- The row is being written; two spots lie in blocks of their own. -/
structure J (w : World) (va vb v : Value) (R : List (List S51)) (H n : Nat) (row : List S51) (x y : S51) (o12 o13 : Option Nat) (W : World) : Prop where
  ms : MS w va vb v R (fun q => q < H) W
  row : Kd.R k51 51 W w.heap.size (fun q => q = H) (.slice (some ⟨H, 0, none⟩) n n) row
  b12 : ∀ g, o12 = some g → H < g ∧ Kd.R k51 51 W w.heap.size (fun q => q = g) (.slice (some ⟨g, 0, none⟩) 1 1) [x]
  b13 : ∀ g, o13 = some g → H < g ∧ Kd.R k51 51 W w.heap.size (fun q => q = g) (.slice (some ⟨g, 0, none⟩) 1 1) [y]
  ne : ∀ g g', o12 = some g → o13 = some g' → g ≠ g'
section
variable {w W W1 : World} {va vb v : Value} {R : List (List S51)} {H n : Nat} {row : List S51} {x y : S51} {o12 o13 : Option Nat}
theorem J.next (h : J w va vb v R H n row x y o12 o13 W) (hb : Below W.heap.size W W1) : J w va vb v R H n row x y o12 o13 W1 :=
  ⟨h.ms.next hb, Kd.R_below h.row hb, fun g hg => ⟨(h.b12 g hg).1, Kd.R_below (h.b12 g hg).2 hb⟩, fun g hg => ⟨(h.b13 g hg).1, Kd.R_below (h.b13 g hg).2 hb⟩, h.ne⟩
theorem J.lt (h : J w va vb v R H n row x y o12 o13 W) : H < W.heap.size := Kd.R_lt h.row H rfl
theorem J.lt12 (h : J w va vb v R H n row x y o12 o13 W) {g : Nat} (hg : o12 = some g) : g < W.heap.size := Kd.R_lt (h.b12 g hg).2 g rfl
theorem J.lt13 (h : J w va vb v R H n row x y o12 o13 W) {g : Nat} (hg : o13 = some g) : g < W.heap.size := Kd.R_lt (h.b13 g hg).2 g rfl
theorem J.new12 (h : J w va vb v R H n row x y none o13 W) : J w va vb v R H n row z51 y (some W.heap.size) o13 (W.alloc (.cells (spc z51) 51)) := by
  have h2 := h.next (below_alloc (Below.refl _ _) (.cells (spc z51) 51))
  refine ⟨h2.ms, h2.row, fun g hg => ?_, h2.b13, fun g g' hg hg' => ?_⟩
  · cases hg
    exact ⟨h.lt, row_new W h.ms.below.size z51⟩
  · cases hg
    have := h.lt13 hg'
    omega
theorem J.new13 (h : J w va vb v R H n row x y o12 none W) : J w va vb v R H n row x z51 o12 (some W.heap.size) (W.alloc (.cells (spc z51) 51)) := by
  have h2 := h.next (below_alloc (Below.refl _ _) (.cells (spc z51) 51))
  refine ⟨h2.ms, h2.row, h2.b12, fun g hg => ?_, fun g g' hg hg' => ?_⟩
  · cases hg
    exact ⟨h.lt, row_new W h.ms.below.size z51⟩
  · cases hg'
    have := h.lt12 hg
    omega
theorem J.put12 {g : Nat} (h : J w va vb v R H n row x y (some g) o13 W) (s : S51) :
    (∀ {o : Oper} {a : Act} (p q : Operand), o.op = .store 51 p q → a.eval p = .pointer (some ⟨g, 0, none⟩) → a.eval q = .agg (spc s) → (execOp a.eval o).run Tryz.prog W = .ok .skip (W.setCells g 0 (spc s).toList)) ∧ J w va vb v R H n row s y (some g) o13 (W.setCells g 0 (spc s).toList) := by
  obtain ⟨h1, h2⟩ := h.b12 g rfl
  obtain ⟨r1, r2, r3⟩ := row_put h2 (j := 0) (by omega) s
  obtain ⟨cells, hc⟩ := Kd.R_typed h2 g rfl
  simp only [Nat.zero_mul, List.set_cons_zero] at r1 r2 r3
  refine ⟨r1, h.ms.grown r3 hc (fun k hk => by omega) (Kd.R_base h2 g rfl), Kd.R_grown h.row r3 (fun k hk e => by injection e with e; omega), fun g' hg' => ?_, fun g' hg' => ?_, h.ne⟩
  · cases hg'
    exact ⟨h1, r2⟩
  · have hn := h.ne g g' rfl hg'
    exact ⟨(h.b13 g' hg').1, Kd.R_grown (h.b13 g' hg').2 r3 (fun k hk e => by injection e with e; omega)⟩
theorem J.put13 {g : Nat} (h : J w va vb v R H n row x y o12 (some g) W) (s : S51) :
    (∀ {o : Oper} {a : Act} (p q : Operand), o.op = .store 51 p q → a.eval p = .pointer (some ⟨g, 0, none⟩) → a.eval q = .agg (spc s) → (execOp a.eval o).run Tryz.prog W = .ok .skip (W.setCells g 0 (spc s).toList)) ∧ J w va vb v R H n row x s o12 (some g) (W.setCells g 0 (spc s).toList) := by
  obtain ⟨h1, h2⟩ := h.b13 g rfl
  obtain ⟨r1, r2, r3⟩ := row_put h2 (j := 0) (by omega) s
  obtain ⟨cells, hc⟩ := Kd.R_typed h2 g rfl
  simp only [Nat.zero_mul, List.set_cons_zero] at r1 r2 r3
  refine ⟨r1, h.ms.grown r3 hc (fun k hk => by omega) (Kd.R_base h2 g rfl), Kd.R_grown h.row r3 (fun k hk e => by injection e with e; omega), fun g' hg' => ?_, fun g' hg' => ?_, h.ne⟩
  · have hn := h.ne g' g hg' rfl
    exact ⟨(h.b12 g' hg').1, Kd.R_grown (h.b12 g' hg').2 r3 (fun k hk e => by injection e with e; omega)⟩
  · cases hg'
    exact ⟨h1, r2⟩
theorem J.putRow (h : J w va vb v R H n row x y o12 o13 W) {m : Nat} (hm : m < n) (s : S51) :
    (∀ {o : Oper} {a : Act} (p q : Operand), o.op = .store 51 p q → a.eval p = .pointer (some ⟨H, m * 4, none⟩) → a.eval q = .agg (spc s) → (execOp a.eval o).run Tryz.prog W = .ok .skip (W.setCells H (m * 4) (spc s).toList)) ∧
      MS w va vb v R (fun q => q < H) (W.setCells H (m * 4) (spc s).toList) ∧ Kd.R k51 51 (W.setCells H (m * 4) (spc s).toList) w.heap.size (fun q => q = H) (.slice (some ⟨H, 0, none⟩) n n) (row.set m s) := by
  obtain ⟨r1, r2, r3⟩ := row_put h.row hm s
  obtain ⟨cells, hc⟩ := Kd.R_typed h.row H rfl
  exact ⟨r1, h.ms.grown r3 hc (fun k hk => by omega) (Kd.R_base h.row H rfl), r2⟩
/-- The cells of the two spots. -/
theorem cell_of {base g : Nat} {ok : Nat → Prop} {s : S51} (h : Kd.R k51 51 W base ok (.slice (some ⟨g, 0, none⟩) 1 1) [s]) : W.cell? ⟨g, 0, none⟩ = some (.int .i64 s.f0) ∧ W.cell? ⟨g, 1, none⟩ = some (.int .u16 s.f1) ∧ W.cell? ⟨g, 2, none⟩ = some (.int .u16 s.f2) ∧ W.cell? ⟨g, 3, none⟩ = some (.int .i64 s.f3) := by
  obtain ⟨cs, hcl, hM, hcc, hff⟩ := Kd.R_elem h z51 0 (by decide) (by decide)
  have hM2 := k51_openM hM
  subst hM2
  exact ⟨hcc 0 _ rfl, hcc 1 _ rfl, hcc 2 _ rfl, hcc 3 _ rfl⟩
end
end Go.Proofs.YtjeaojolhdfpeaaGreat.MergeJ
