/- LiveRun's copy: where the writing into it stands. -/
import Derived.Test.YtklknkfoafdgpaaLiveKept
import Derived.Test.YtklknkfoafdgpaaLiveRefR
namespace Go.Proofs.Ytklknkfoafdgpaa.LiveRunS
open Go.RowKit Go.Proofs.YtklknkfoafdgpaaW.PrintWords Go.Proofs.YtklknkfoafdgpaaW.PrintLast Go.Proofs.YtklknkfoafdgpaaW.PrintMore
open Go.Proofs.Ytklknkfoafdgpaa.PLiveKnown Go.Proofs.Ytklknkfoafdgpaa.LiveT Go.Proofs.Ytklknkfoafdgpaa.LiveB Go.Proofs.Ytklknkfoafdgpaa.LiveInv Go.Proofs.Ytklknkfoafdgpaa.LiveSet Go.Proofs.Ytklknkfoafdgpaa.LiveAhead Go.Proofs.Ytklknkfoafdgpaa.LiveEnd Go.Proofs.Ytklknkfoafdgpaa.LiveSettled Go.Proofs.Ytklknkfoafdgpaa.LiveCopied Go.Proofs.Ytklknkfoafdgpaa.LiveAft Go.Proofs.Ytklknkfoafdgpaa.LiveRunP Go.Proofs.Ytklknkfoafdgpaa.LiveSame Go.Proofs.Ytklknkfoafdgpaa.LiveFit Go.Proofs.Ytklknkfoafdgpaa.LiveRefP Go.Proofs.Ytklknkfoafdgpaa.LiveHandP Go.Proofs.Ytklknkfoafdgpaa.LiveHandC Go.Proofs.Ytklknkfoafdgpaa.LiveKept
set_option linter.unusedVariables false
set_option linter.unusedSimpArgs false

section
variable {ops : Array Oper} {o : Oper} {a : Act} {α : Type}
set_option maxRecDepth 100000 in
theorem R_store_skip (d : Kd α) {W : World} {base : Nat} (t : TypeId) (p x : Operand) (ho : o.op = .store t p x) (e : TypeId) {g n cap o' : Nat} (i j : Nat) (xs : List α) (u : Value) (seg : List Value) (ok : Nat → Prop)
    (haddr : a.eval p = .pointer (some ⟨g, o', none⟩)) (hoff : o' = i * d.sz + j) (hx : a.eval x = u) (hu : u.cells.toList = seg) (ht : (Try.prog.info? t).map (·.size) = some seg.length) (h1 : ∀ q ∈ seg, q.oneCell' = true)
    (HO : d.R e W base ok (.slice (some ⟨g, 0, none⟩) n cap) xs) (hi : i < n) (hj : j + seg.length ≤ d.sz) : (execOp a.eval o).run Try.prog W = .ok .skip (W.setCells g (i * d.sz + j) seg) := by
  subst hoff
  obtain ⟨_, inner, hown, hr⟩ := HO
  have hrun : (Instr.storeAt t (.pointer (some ⟨g, i * d.sz + j, none⟩)) u).run Try.prog W = .ok () (W.setCells g (i * d.sz + j) seg) := by
    rcases hown.2 with ⟨hv, _⟩ | ⟨g', cap', cur, hv, hb, hh, hnc, hcm, hcs, _⟩
    · cases hv
    injection hv with ha _ hc
    injection ha with ha
    injection ha with hg'
    subst hg'; subst hc
    refine run_store_run t u seg hh hu ht ?_ h1
    have hnx : n = xs.length := by
      have := hown.1
      omega
    have h2 : i * d.sz + d.sz ≤ n * d.sz := by rw [← Nat.succ_mul]; exact Nat.mul_le_mul_right _ hi
    have h3 : n * d.sz ≤ cap * d.sz := Nat.mul_le_mul_right _ (by omega)
    omega
  unfold execOp
  simp only [ho, haddr, hx, Sem.run_bind, Sem.run_pure, Result.andThen_ok, hrun]
end
/-- One instruction of one block, another one. -/
def put1 (l : List S43) (i k : Nat) (x : S47) : List S43 := l.set i ⟨(rd_T43 l i).f0, (rd_T43 l i).f1.set k x, (rd_T43 l i).f2⟩
theorem put1_length (l : List S43) (i k : Nat) (x : S47) : (put1 l i k x).length = l.length := by simp [put1]
theorem rd_put1 (l : List S43) (i k : Nat) (x : S47) (hi : i < l.length) (j : Nat) (hj : j < l.length) : rd_T43 (put1 l i k x) j = if j = i then ⟨(rd_T43 l i).f0, (rd_T43 l i).f1.set k x, (rd_T43 l i).f2⟩ else rd_T43 l j := by
  rw [rd43 _ j (by rw [put1_length]; exact hj)]
  unfold put1
  rw [List.getElem_set]
  by_cases h : i = j
  · subst h
    simp
  · rw [if_neg h, if_neg (Ne.symm h), rd43 l j hj]
theorem fit_put1 {l : List S43} (h : FitC l) {i k : Nat} {x : S47} (hi : i < l.length) (hx : Fit47 x) : FitC (put1 l i k x) := by
  have hl := put1_length l i k x
  refine ⟨by rw [hl]; exact h.blocks, fun b hb => ?_, fun b hb => ?_, fun b hb m hm => ?_⟩
  · rw [hl] at hb
    rw [rd_put1 l i k x hi b hb]
    split
    · simp only [List.length_set]
      exact h.ins i hi
    · exact h.ins b hb
  · rw [hl] at hb
    rw [rd_put1 l i k x hi b hb]
    split
    · exact h.next i hi
    · exact h.next b hb
  · rw [hl] at hb
    rw [rd_put1 l i k x hi b hb] at hm ⊢
    split at hm
    · rename_i he
      rw [if_pos he]
      simp only [List.length_set] at hm
      show Fit47 (rd_T47 ((rd_T43 l i).f1.set k x) m)
      rw [rd47 _ m (by rw [List.length_set]; exact hm), List.getElem_set]
      split
      · exact hx
      · have := h.each i hi m hm
        rwa [rd47 _ m hm] at this
    · rename_i he
      rw [if_neg he]
      exact h.each b hb m hm
/-- Where the writing stands. -/
structure LS (w0 wH wB W : World) (g7 g8 : Nat) (fn rg : Int) (A : Option Addr) (n c : Nat) (va : Value) (rs : List S43) (cur : List S43) : Prop where
  below : Below w0.heap.size w0 W
  s : Kd.S k43 43 W w0.heap.size (fun k => k < wH.heap.size ∨ wB.heap.size ≤ k) (.slice A n c) cur
  a : Kd.R k43 43 W wH.heap.size (fun k => wH.heap.size ≤ k ∧ k < wB.heap.size) va rs
  b7 : W.heap[g7]? = some (.cells #[.int .i64 fn, .int .i64 rg, .slice A n c] 24 (0, 0))
  b8 : W.heap[g8]? = some (.cells #[.int .i64 fn, .int .i64 rg, va] 24 (0, 0))
  size : wB.heap.size ≤ W.heap.size
  fit : FitC cur
  len : n = cur.length
section
variable {w0 wH wB W W1 : World} {g7 g8 : Nat} {fn rg : Int} {A : Option Addr} {n c : Nat} {va : Value} {rs cur : List S43}
theorem LS.next (h : LS w0 wH wB W g7 g8 fn rg A n c va rs cur) (hb : Below W.heap.size W W1) : LS w0 wH wB W1 g7 g8 fn rg A n c va rs cur :=
  ⟨below_step h.below hb, Kd.S_below h.s hb, Kd.R_below h.a hb, (hb.block g7 (blk_lt h.b7)).trans h.b7, (hb.block g8 (blk_lt h.b8)).trans h.b8, Nat.le_trans h.size hb.size, h.fit, h.len⟩
/-- One instruction written. -/
theorem LS.put (h : LS w0 wH wB W g7 g8 fn rg A n c va rs cur) {gI : Nat} {oki : Nat → Prop} {v1 v2 : Value} {i k : Nat} {x : S47} {xs : List S47} (hi : i < cur.length)
    (hH : Kd.H k43 43 W w0.heap.size (fun k => k < wH.heap.size ∨ wB.heap.size ≤ k) (.slice A n c) cur (i : Int) oki [.int .i64 (rd_T43 cur i).f0, v1, v2]) (hg : W.grownBy W1 (some gI)) (hown : v1.ownBlock = some gI) (hr1 : Kd.R k47 47 W w0.heap.size oki v1 xs)
    (hr : Kd.R k47 47 W1 w0.heap.size oki v1 ((rd_T43 cur i).f1.set k x)) (hr2 : Kd.R (Kd.int .i64) 3 W w0.heap.size oki v2 (rd_T43 cur i).f2) (hx : Fit47 x) : LS w0 wH wB W1 g7 g8 fn rg A n c va rs (put1 cur i k x) := by
  have ho : oki gI := hr1.1 gI hown
  have hok := hH.1 gI ho
  have hb0 : w0.heap.size ≤ gI := Kd.R_base hr1 gI hown
  obtain ⟨cI, hcI⟩ := Kd.R_typed hr1 gI hown
  have hn : ∀ g cs, W.heap[g]? = some (.cells cs 24 (0, 0)) → some g ≠ some gI := fun g cs hc he => by
    injection he with he
    subst he
    rw [hcI] at hc
    injection hc with hc
    injection hc with _ hc
    cases hc
  have hgo : W.grownBy W1 v1.ownBlock := by rw [hown]; exact hg
  refine ⟨h.below.grown hg h.below.size (fun k hk => by cases hk; exact hb0), ?_, Kd.R_grown h.a hg (fun k hk he => by injection he with he; subst he; have := h.size; omega), blk_grown h.b7 hg (hn g7 _ h.b7), blk_grown h.b8 hg (hn g8 _ h.b8), Nat.le_trans h.size hg.size, fit_put1 h.fit hi hx, by rw [put1_length]; exact h.len⟩
  have hH1 := Kd.H_grown hH hg (fun k hk => by cases hk; exact ho)
  have hb := Kd.H_back (x' := ⟨(rd_T43 cur i).f0, (rd_T43 cur i).f1.set k x, (rd_T43 cur i).f2⟩) (okp := oki) hH1 (k43_mkM _ _ _ (⟨(rd_T43 cur i).f0, (rd_T43 cur i).f1.set k x, (rd_T43 cur i).f2⟩ : S43) hr (Kd.R_over hr2 hr1 (by decide) hgo)) (fun k hk => hk)
  exact hb
theorem LS.lend {ad : Addr} (h : LS w0 wH wB W g7 g8 fn rg (some ad) n c va rs cur) {i : Nat} (hi : i < cur.length) : ∃ vI vN oki, W.cell? ⟨(ad.add (i * 3)).block, (ad.add (i * 3)).off + 1, none⟩ = some vI ∧ Kd.R k47 47 W w0.heap.size oki vI (rd_T43 cur i).f1 ∧ Kd.R (Kd.int .i64) 3 W w0.heap.size oki vN (rd_T43 cur i).f2
    ∧ Kd.H k43 43 W w0.heap.size (fun k => k < wH.heap.size ∨ wB.heap.size ≤ k) (.slice (some ad) n c) cur (i : Int) oki [.int .i64 (rd_T43 cur i).f0, vI, vN] := by
  obtain ⟨g, cap, hv, _⟩ := Kd.R_form (Kd.S_R h.s) (Nat.lt_of_le_of_lt (Nat.zero_le _) hi)
  injection hv with ha hn hc
  injection ha with ha
  subst ha
  obtain ⟨oki, cs, hcl, hcM, hcc, hok, hH⟩ := Kd.S_lend h.s z43 (i : Int) (by omega) (by rw [h.len]; omega)
  obtain ⟨vI, vN, rfl, hrI, hrN⟩ := k43_openM hcM
  have hc1 := hcc 1 vI rfl
  rw [Int.toNat_natCast] at hc1
  exact ⟨vI, vN, oki, by rw [add_plain]; exact hc1, hrI, hrN, hH⟩
theorem LS.write {ad ad1 : Addr} {vN v3 v7 : Value} {oki : Nat → Prop} {i k cI : Nat} {x : S47} (h : LS w0 wH wB W g7 g8 fn rg (some ad) n c va rs cur) (hi : i < cur.length) (hk : k < (rd_T43 cur i).f1.length)
    (hI : Kd.R k47 47 W w0.heap.size oki (.slice (some ad1) (rd_T43 cur i).f1.length cI) (rd_T43 cur i).f1) (hN : Kd.R (Kd.int .i64) 3 W w0.heap.size oki vN (rd_T43 cur i).f2)
    (hH : Kd.H k43 43 W w0.heap.size (fun k => k < wH.heap.size ∨ wB.heap.size ≤ k) (.slice (some ad) n c) cur (i : Int) oki [.int .i64 (rd_T43 cur i).f0, .slice (some ad1) (rd_T43 cur i).f1.length cI, vN])
    (hb : Below W.heap.size W W1) (hx : Fit47 x) (h3 : Kd.R k82 82 W1 W.heap.size (fun _ => True) v3 x.f3) (h7 : Kd.R k78 78 W1 W.heap.size (fun k => some k ≠ v3.ownBlock) v7 x.f7) :
    ∃ W2, (∀ {o : Oper} {a : Act} (p q : Operand), o.op = .store 47 p q → a.eval p = .pointer (some (ad1.add (k * 8))) → a.eval q = .agg (row47 x v3 v7) → (execOp a.eval o).run Try.prog W1 = .ok .skip W2) ∧ LS w0 wH wB W2 g7 g8 fn rg (some ad) n c va rs (put1 cur i k x) := by
  obtain ⟨gI, cap, hv, _, hlt, _⟩ := Kd.R_form hI (Nat.lt_of_le_of_lt (Nat.zero_le _) hk)
  injection hv with ha hn hc
  injection ha with ha
  subst ha
  have hgk : gI < W.heap.size := hlt
  have hI1 : Kd.R k47 47 W1 w0.heap.size (fun k => oki k ∨ (k < wH.heap.size ∨ wB.heap.size ≤ k) ∧ W.heap.size ≤ k) (.slice (some ⟨gI, 0, none⟩) (rd_T43 cur i).f1.length cI) (rd_T43 cur i).f1 := Kd.R_mono (Kd.R_below hI hb) (fun _ hk => .inl hk)
  have hN1 : Kd.R (Kd.int .i64) 3 W1 w0.heap.size (fun k => oki k ∨ (k < wH.heap.size ∨ wB.heap.size ≤ k) ∧ W.heap.size ≤ k) vN (rd_T43 cur i).f2 := Kd.R_mono (Kd.R_below hN hb) (fun _ hk => .inl hk)
  have hH1 := Kd.H_below (Kd.H_widen hH) hb
  have hrow : (row47 x v3 v7).toList.length = 8 := rfl
  obtain ⟨cs, hcl, _, hcc, _⟩ := Kd.R_elem hI1 z47 (k : Int) (by omega) (by omega)
  have hsz : k47.sz = 8 := rfl
  have hM : k47.M W1 w0.heap.size (fun k => W.heap.size ≤ k) x (cs.take 0 ++ (row47 x v3 v7).toList ++ cs.drop (0 + (row47 x v3 v7).toList.length)) := by
    rw [hrow, Nat.zero_add, List.drop_of_length_le (by rw [hcl, hsz]; omega), List.take_zero, List.nil_append, List.append_nil]
    exact k47_mkM _ _ _ x (Kd.R_lower (Kd.R_reok rfl h3 (fun b hb => Kd.R_base h3 b hb)) h.below.size) (Kd.R_lower (Kd.R_mono (Kd.R_bound h7) (fun _ hk => hk.2.1)) h.below.size)
  obtain ⟨h2, h4⟩ := Kd.R_seg hI1 (k : Int) (by omega) (by omega) (j := 0) (seg := (row47 x v3 v7).toList) (okp := fun k => W.heap.size ≤ k) hcl hcc (by rw [hrow, hsz]; omega) hM (fun q hq => ⟨.inr ⟨.inr (by have := h.size; omega), hq⟩, by omega⟩)
  rw [Int.toNat_natCast] at h2 h4
  refine ⟨W1.setCells gI (k * k47.sz + 0) (row47 x v3 v7).toList, fun {o a} p q ho hp hq => ?_, LS.put (h.next hb) hi hH1 h4 (by rfl) hI1 h2 hN1 hx⟩
  refine R_store_skip k47 47 p q ho 47 k 0 (rd_T43 cur i).f1 (.agg (row47 x v3 v7)) (row47 x v3 v7).toList _ (by rw [hp, add_plain]) (by rw [hsz, Nat.add_zero]) hq rfl (by kernel_rfl) ?_ hI1 hk (by rw [hrow, hsz]; omega)
  intro u hu
  exact k47.K_one (k47.K_of_M hM) u (List.mem_append_left _ (List.mem_append_right _ hu))
end
end Go.Proofs.Ytklknkfoafdgpaa.LiveRunS
