/- Profile's book: Profile, for its callers: new rows of its own, which are those that the book holds. -/
import Derived.Test.YtjeaojolhdfpeaaGreatBookQ
import Derived.Test.YtjeaojolhdfpeaaGreatBookU
namespace Go.Proofs.YtjeaojolhdfpeaaGreat.BookP
open Go.RowKit Go.Maps Go.Proofs.YtjeaojolhdfpeaaGreatW.PrintWords Go.Proofs.YtjeaojolhdfpeaaGreatW.PrintLast Go.Proofs.YtjeaojolhdfpeaaGreatW.PrintMore
open Go.Proofs.YtjeaojolhdfpeaaGreat.PProfileCut Go.Proofs.YtjeaojolhdfpeaaGreat.BookK Go.Proofs.YtjeaojolhdfpeaaGreat.BookS Go.Proofs.YtjeaojolhdfpeaaGreat.BookB Go.Proofs.YtjeaojolhdfpeaaGreat.BookQ
set_option linter.unusedVariables false
set_option linter.unusedSimpArgs false

abbrev kr : Kd (List S51) := Kd.slice 51 k51
/-- The first k rows, nothing counted. -/
def zr (F : List (List S51)) (k : Nat) : List (List S51) := (F.take k).map fun r => List.replicate r.length z51
theorem zr_len {F : List (List S51)} {k : Nat} (h : k ≤ F.length) : (zr F k).length = k := by
  simp [zr]
  omega
theorem zr_succ {F : List (List S51)} {k : Nat} (h : k < F.length) : zr F (k + 1) = zr F k ++ [List.replicate (rw_ F k).length z51] := by
  unfold zr
  rw [List.take_add_one, List.map_append]
  simp [rw_, List.getD_eq_getElem?_getD, h]
theorem info51_ : (Tryz.prog.info? 51).map (fun i => (i.zero, i.size, i.bytes)) = some (some (.agg #[(.int .i64 0), (.int .u16 0), (.int .u16 0), (.int .i64 0)]), 4, 24) := by kernel_rfl
theorem info53_ : (Tryz.prog.info? 53).map (fun i => (i.zero, i.size, i.bytes)) = some (some (.slice none 0 0), 1, 24) := by kernel_rfl
theorem info90_ : (Tryz.prog.info? 90).map (fun i => (i.zero, i.size, i.bytes)) = some (some (.agg #[(.int .i64 0), (.int .i64 0)]), 2, 16) := by kernel_rfl
/-- What Profile has built. -/
structure PS (w : World) (v : Value) (R : List (List S51)) (W : World) : Prop where
  b2 : W.heap[w.heap.size]? = some (.cells #[.slice none 0 0] 25 (0, 0))
  b3 : W.heap[w.heap.size + 1]? = some (.cells #[v] 25 (0, 0))
  rows : Kd.S kr 53 W w.heap.size (fun _ => True) v R
  below : Below w.heap.size w W
theorem PS.next {w W W1 : World} {v : Value} {R : List (List S51)} (h : PS w v R W) (hb : Below W.heap.size W W1) : PS w v R W1 :=
  ⟨blk_below h.b2 hb, blk_below h.b3 hb, Kd.S_below h.rows hb, below_step h.below hb⟩
/-- Behind a step of the range: nothing but its own block has turned. -/
theorem not_iter {P : Program} {W : World} {b r n cnt : Nat} {D : DataW Unit} {left : Lit → Bool} (h : W.ranges P 90 rp b r n D left cnt) {cells : Array Value} {t : TypeId} {k : Nat} (hk : W.heap[k]? = some (.cells cells t (0, 0))) : k ≠ r := by
  obtain ⟨es, clock, since, seen, c0, _, _, _, _, hr, _⟩ := h
  intro e
  subst e
  rw [hk] at hr
  cases hr
theorem R_iter {α : Type} {d : Kd α} {e base : Nat} {ok : Nat → Prop} {v : Value} {xs : List α} {P : Program} {W W1 : World} {b r n cnt : Nat} {D : DataW Unit} {left : Lit → Bool} (h : d.R e W base ok v xs) (hr : W.ranges P 90 rp b r n D left cnt) (hg : W.grownBy W1 (some r)) : d.R e W1 base ok v xs :=
  Kd.R_mono (Kd.R_grown (Kd.R_bound h) hg (fun k hk he => by
    obtain ⟨_, _, _, q, _, cells, hc⟩ := hk
    exact not_iter hr hc (by injection he))) (fun _ hk => hk.1)
theorem S_iter {α : Type} {d : Kd α} {e base : Nat} {ok : Nat → Prop} {v : Value} {xs : List α} {P : Program} {W W1 : World} {b r n cnt : Nat} {D : DataW Unit} {left : Lit → Bool} (h : Kd.S d e W base ok v xs) (hr : W.ranges P 90 rp b r n D left cnt) (hg : W.grownBy W1 (some r)) : Kd.S d e W1 base ok v xs :=
  Kd.S_mono (Kd.S_grown (Kd.S_bound h) hg (fun k hk he => by
    obtain ⟨_, _, _, q, _, cells, hc⟩ := hk
    exact not_iter hr hc (by injection he))) (fun _ hk => hk.1)
theorem PS.iter {w W W1 : World} {v : Value} {R : List (List S51)} {P : Program} {b r n cnt : Nat} {D : DataW Unit} {left : Lit → Bool} (h : PS w v R W) (hr : W.ranges P 90 rp b r n D left cnt) (hg : W.grownBy W1 (some r)) (hw : w.heap.size ≤ r) : PS w v R W1 :=
  ⟨blk_grown h.b2 hg (fun e => not_iter hr h.b2 (by injection e)), blk_grown h.b3 hg (fun e => not_iter hr h.b3 (by injection e)), S_iter h.rows hr hg, h.below.grown hg h.below.size (fun j hj => by cases hj; exact hw)⟩
/-- The places that have been met so far. -/
def Got (F : List (List S51)) (D : DataW Unit) (left : Lit → Bool) (ps : List (Int × Int)) : Prop :=
  (∀ p ∈ ps, ∃ i j : Nat, p = ((i : Int), (j : Int)) ∧ InR F i j ∧ Maps.has D (kp i j) = true) ∧ ∀ i j : Nat, InR F i j → Maps.has D (kp i j) = true → left (kp i j) = true ∨ ((i : Int), (j : Int)) ∈ ps
theorem Got.step {w : World} {S : Nat → Prop} {bp mp : Nat} {A : Option Addr} {c N : Nat} {F : List (List S51)} {D : DataW Unit} (hB : BkAt w S bp mp A c D F N) {left : Lit → Bool} {ps : List (Int × Int)} (h : Got F D left ps) {x1 x2 : Int} {kl : Lit} {y : DataW Unit}
    (hkey : keyOf Tryz.prog 90 (pv x1 x2) = some kl) (hat : ∀ z, D.atKey kl z = y) : Got F D (fun z => left z && !z.sameKey kl) (ps ++ [(x1, x2)]) := by
  have hh : Maps.has D kl = true := has_true_of_atKey hat
  obtain ⟨i, j, e, hij⟩ := hB.keys kl ⟨_, hkey⟩ hh
  obtain ⟨a, b, e1, ha, hb, e2⟩ := keyOf_inv hkey
  have e3 : x1 = a ∧ x2 = b := by simpa [pv] using e1
  obtain ⟨rfl, rfl⟩ := e3
  have hI := hB.i64 hij
  have e4 := kp_inj ha hb hI.1 hI.2 (e2.symm.trans e)
  obtain ⟨rfl, rfl⟩ := e4
  refine ⟨fun p hp => ?_, fun i' j' h1 h2 => ?_⟩
  · rcases List.mem_append.1 hp with hp | hp
    · exact h.1 p hp
    · rw [List.mem_singleton.1 hp]
      exact ⟨i, j, rfl, hij, e ▸ hh⟩
  · rcases h.2 i' j' h1 h2 with h3 | h3
    · by_cases he : kp i' j' = kl
      · have := hB.inj h1 hij (he.trans e)
        obtain ⟨rfl, rfl⟩ := this
        exact .inr (List.mem_append_right _ (List.mem_singleton.2 rfl))
      · left
        show (left (kp i' j') && !(kp i' j').sameKey kl) = true
        rw [h3, Maps.sameKey_ne he]
        rfl
    · exact .inr (List.mem_append_left _ h3)
/-- How much of the rows has been filled in: the places qs up to m. -/
structure Fill (F : List (List S51)) (qs : List (Int × Int)) (m : Nat) (R : List (List S51)) : Prop where
  len : R.length = F.length
  lens : ∀ i, i < F.length → (rw_ R i).length = (rw_ F i).length
  got : ∀ i j, InR F i j → gt R i j = gt F i j ∨ (gt R i j = z51 ∧ ∀ q, q < m → qs[q]? ≠ some ((i : Int), (j : Int)))
theorem rw_zr {F : List (List S51)} {i : Nat} (h : i < F.length) : rw_ (zr F F.length) i = List.replicate (rw_ F i).length z51 := by
  simp [rw_, zr, List.getD_eq_getElem?_getD, h]
theorem Fill.start (F : List (List S51)) (qs : List (Int × Int)) : Fill F qs 0 (zr F F.length) :=
  ⟨zr_len (Nat.le_refl _), fun i h => by rw [rw_zr h, List.length_replicate], fun i j h => .inr ⟨by
    unfold gt
    rw [rw_zr h.1]
    simp [List.getD_eq_getElem?_getD, List.getElem?_replicate, h.2], fun q hq => absurd hq (Nat.not_lt_zero _)⟩⟩
theorem Fill.inR {F R : List (List S51)} {qs : List (Int × Int)} {m : Nat} (h : Fill F qs m R) {i j : Nat} (hij : InR F i j) : InR R i j := ⟨by rw [h.len]; exact hij.1, by rw [h.lens i hij.1]; exact hij.2⟩
theorem Fill.step {F R : List (List S51)} {qs : List (Int × Int)} {m : Nat} (h : Fill F qs m R) {i j : Nat} (hij : InR F i j) (hq : qs[m]? = some ((i : Int), (j : Int))) : Fill F qs (m + 1) (st R i j (gt F i j)) := by
  have hR := h.inR hij
  refine ⟨by rw [len_st]; exact h.len, fun a ha => ?_, fun a b hab => ?_⟩
  · rw [rw_st hR.1]
    split
    · rename_i e
      rw [e, List.length_set]
      exact h.lens i hij.1
    · exact h.lens a ha
  · rw [gt_st hR]
    by_cases e : a = i ∧ b = j
    · rw [if_pos e, e.1, e.2]
      exact .inl rfl
    · rw [if_neg e]
      refine (h.got a b hab).imp id (fun ⟨h1, h2⟩ => ⟨h1, fun q hq2 => ?_⟩)
      by_cases e2 : q = m
      · rw [e2, hq]
        intro e3
        injection e3 with e3
        injection e3 with e4 e5
        exact e ⟨by omega, by omega⟩
      · exact h2 q (by omega)
theorem Fill.done {w : World} {S : Nat → Prop} {bp mp : Nat} {A : Option Addr} {c N : Nat} {F R : List (List S51)} {D : DataW Unit} {qs : List (Int × Int)} (hB : BkAt w S bp mp A c D F N) (h : Fill F qs qs.length R)
    (hm : ∀ i j : Nat, InR F i j → Maps.has D (kp i j) = true → ((i : Int), (j : Int)) ∈ qs) : R = F := by
  refine rows_ext h.len (fun i hi => h.lens i (by rw [← h.len]; exact hi)) (fun i j hij => ?_)
  have hF : InR F i j := ⟨by rw [← h.len]; exact hij.1, by rw [← h.lens i (by rw [← h.len]; exact hij.1)]; exact hij.2⟩
  rcases h.got i j hF with h1 | ⟨h1, h2⟩
  · exact h1
  · rcases hB.spots i j hF with ⟨_, _, h3⟩ | ⟨q, h3, _⟩
    · rw [h1, h3]
    · obtain ⟨k, hk, he⟩ := List.getElem_of_mem (hm i j hF h3)
      exact absurd ((List.getElem?_eq_getElem hk).trans (congrArg some he)) (h2 k hk)
section
variable {ops : Array Oper} {o : Oper} {a : Act} {α : Type}
set_option maxRecDepth 100000 in
theorem R_store_skip (d : Kd α) {W : World} {base : Nat} (t : TypeId) (p x : Operand) (ho : o.op = .store t p x) (e : TypeId) {g n cap o' : Nat} (i j : Nat) (xs : List α) (u : Value) (seg : List Value) (ok : Nat → Prop)
    (haddr : a.eval p = .pointer (some ⟨g, o', none⟩)) (hoff : o' = i * d.sz + j) (hx : a.eval x = u) (hu : u.cells.toList = seg) (ht : (Tryz.prog.info? t).map (·.size) = some seg.length) (h1 : ∀ q ∈ seg, q.oneCell' = true)
    (HO : d.R e W base ok (.slice (some ⟨g, 0, none⟩) n cap) xs) (hi : i < n) (hj : j + seg.length ≤ d.sz) : (execOp a.eval o).run Tryz.prog W = .ok .skip (W.setCells g (i * d.sz + j) seg) := by
  subst hoff
  obtain ⟨_, inner, hown, hr⟩ := HO
  have hrun : (Instr.storeAt t (.pointer (some ⟨g, i * d.sz + j, none⟩)) u).run Tryz.prog W = .ok () (W.setCells g (i * d.sz + j) seg) := by
    rcases hown.2 with ⟨hv, _⟩ | ⟨g', cap', cur, hv, hb, hh, hnc, hcm, hcs, _⟩
    · cases hv
    injection hv with ha _ hc
    injection ha with ha
    injection ha with hg'
    subst hg'; subst hc
    refine run_store_run t u seg hh hu ht ?_ h1
    have hnx : n = xs.length := by
      have := hown.1
      omega
    have h2 : i * d.sz + d.sz ≤ n * d.sz := by rw [← Nat.succ_mul]; exact Nat.mul_le_mul_right _ hi
    have h3 : n * d.sz ≤ cap * d.sz := Nat.mul_le_mul_right _ (by omega)
    omega
  unfold execOp
  simp only [ho, haddr, hx, Sem.run_bind, Sem.run_pure, Result.andThen_ok, hrun]
end
/-- A spot of a row of one's own is written. -/
theorem PS.write {w W : World} {g n c : Nat} {R : List (List S51)} (h : PS w (.slice (some ⟨g, 0, none⟩) n c) R W) (hn : n = R.length) {i j : Nat} (hij : InR R i j) (s : S51) :
    ∃ gr cr cells, W.cell? ⟨g, i, none⟩ = some (.slice (some ⟨gr, 0, none⟩) (rw_ R i).length cr) ∧ W.heap[gr]? = some (.cells cells 51 (0, 0)) ∧ w.heap.size ≤ gr ∧
      (∀ {o : Oper} {a : Act} (p q : Operand), o.op = .store 51 p q → a.eval p = .pointer (some ⟨gr, j * 4, none⟩) → a.eval q = .agg (spc s) → ∀ W2 : World, Below W.heap.size W W2 → (execOp a.eval o).run Tryz.prog W2 = .ok .skip (W2.setCells gr (j * 4) (spc s).toList)) ∧
      ∀ W2 : World, Below W.heap.size W W2 → PS w (.slice (some ⟨g, 0, none⟩) n c) (st R i j s) (W2.setCells gr (j * 4) (spc s).toList) ∧ W2.grownBy (W2.setCells gr (j * 4) (spc s).toList) (some gr) := by
  subst hn
  obtain ⟨oki, cs, hcl, hcM, hcc, hok, hH⟩ := Kd.S_lend h.rows ([] : List S51) (i : Int) (by omega) (by have := hij.1; omega)
  rw [Int.toNat_natCast] at hcM hcc
  obtain ⟨vr, rfl, hr⟩ := hcM
  have hr : Kd.R k51 51 W w.heap.size oki vr (rw_ R i) := hr
  have hlr := hij.2
  obtain ⟨gr, cr, rfl, hbr, hgl, cells, hcells⟩ := Kd.R_form hr (by omega)
  have hc0 := hcc 0 _ rfl
  have hsz1 : kr.sz = 1 := rfl
  rw [hsz1, Nat.mul_one, Nat.add_zero] at hc0
  have hsz : k51.sz = 4 := rfl
  have hrow : (spc s).toList.length = 4 := rfl
  have hone : ∀ u ∈ (spc s).toList, u.oneCell' = true := by
    intro u hu
    simp [spc] at hu
    rcases hu with rfl | rfl | rfl | rfl <;> rfl
  refine ⟨gr, cr, cells, hc0, hcells, hbr, fun {o a} p q ho hp hq W2 hb => ?_, fun W2 hb => ?_⟩
  · have h3 := R_store_skip k51 51 p q ho 51 j 0 (rw_ R i) (.agg (spc s)) (spc s).toList oki (by rw [hp]) (by rw [hsz, Nat.add_zero]) hq rfl (by kernel_rfl) hone (Kd.R_below hr hb) (by omega) (by rw [hrow, hsz]; omega)
    rw [hsz, Nat.add_zero] at h3
    exact h3
  · have hr2 := Kd.R_below hr hb
    have hH2 := Kd.H_below hH hb
    obtain ⟨cs2, hcl2, _, hcc2, _⟩ := Kd.R_elem hr2 z51 (j : Int) (by omega) (by omega)
    have hM : k51.M W2 w.heap.size (fun _ => False) s (cs2.take 0 ++ (spc s).toList ++ cs2.drop (0 + (spc s).toList.length)) := by
      rw [hrow, Nat.zero_add, List.drop_of_length_le (by rw [hcl2, hsz]; omega), List.take_zero, List.nil_append, List.append_nil]
      exact k51_mkM _ _ _ s
    obtain ⟨h2, h4⟩ := Kd.R_seg hr2 (j : Int) (by omega) (by omega) (j := 0) (seg := (spc s).toList) (okp := fun _ => False) hcl2 hcc2 (by rw [hrow, hsz]; omega) hM (fun q hq => hq.elim)
    rw [Int.toNat_natCast, hsz, Nat.add_zero] at h2 h4
    have hP := h.next hb
    have hgr : oki gr := hr.1 gr (by simp [Value.ownBlock])
    have hc2 := blk_below hcells hb
    have hH3 := Kd.H_grown hH2 h4 (fun k hk => by cases hk; exact hgr)
    have hS := Kd.H_back (x' := (rw_ R i).set j s) (okp := oki) hH3 ⟨_, rfl, h2⟩ (fun k hk => hk)
    rw [Int.toNat_natCast] at hS
    exact ⟨⟨blk_grown hP.b2 h4 (fun e => blk_ne hP.b2 hc2 (by decide) (by injection e)), blk_grown hP.b3 h4 (fun e => blk_ne hP.b3 hc2 (by decide) (by injection e)), hS, hP.below.grown h4 hP.below.size (fun k hk => by cases hk; exact hbr)⟩, h4⟩
def r15_5_T : Bool × List (List Nat × List Nat) := (true, [([], []), ([0], [0]), ([], []), ([2, 2], [2]), ([3], [3]), ([1, 4], [1, 4]), ([0, 1, 2, 3, 4, 5], []), ([6, 5, 5, 0, 1, 2, 3, 4, 5], [5, 6])])
def r15_5_B : List Nat := [0, 1, 0, 4, 12, 31, 63, 127]
theorem r15_5_tab : rtab .any (opsOf Tryz.f15 5) = r15_5_T := by kernel_rfl
theorem r15_5_bits : waitsOk r15_5_T.2 r15_5_B = true := by kernel_rfl
def r15_16_T : Bool × List (List Nat × List Nat) := (true, [([], []), ([0], [0]), ([1], [1]), ([2], [2]), ([], []), ([3, 4], [3, 4]), ([5, 0, 1, 2, 3, 4, 5], [5])])
def r15_16_B : List Nat := [0, 1, 3, 7, 0, 31, 63]
theorem r15_16_tab : rtab .any (opsOf Tryz.f15 16) = r15_16_T := by kernel_rfl
theorem r15_16_bits : waitsOk r15_16_T.2 r15_16_B = true := by kernel_rfl
def r15_17_T : Bool × List (List Nat × List Nat) := (true, [([], []), ([0], [0]), ([], []), ([2], [2]), ([1, 3], [1, 3]), ([4], [4]), ([], []), ([6], [6]), ([], []), ([8], [8]), ([9], [9]), ([10], [10]), ([], []), ([12], [12]), ([13], [13]), ([14], [14]), ([], []), ([16], [16]), ([17], [17]), ([18], [18]), ([], []), ([20], [20]), ([21], [21]), ([22], [22]), ([11, 15, 19, 23], [11, 15, 19, 23]), ([5, 7, 0, 1, 2, 3, 4, 5, 6, 7, 8, 9, 10, 11, 12, 13, 14, 15, 16, 17, 18, 19, 20, 21, 22, 23, 24], [5, 7]), ([25, 24, 11, 0, 1, 2, 3, 4, 5, 6, 7, 8, 9, 10, 11, 12, 13, 14, 15, 16, 17, 18, 19, 20, 21, 22, 23, 24], [24, 25])])
def r15_17_B : List Nat := [0, 1, 0, 4, 15, 31, 0, 64, 0, 256, 768, 1792, 0, 4096, 12288, 28672, 0, 65536, 196608, 458752, 0, 1048576, 3145728, 7340032, 16776960, 33554431, 67108863]
theorem r15_17_tab : rtab .any (opsOf Tryz.f15 17) = r15_17_T := by kernel_rfl
theorem r15_17_bits : waitsOk r15_17_T.2 r15_17_B = true := by kernel_rfl
set_option maxHeartbeats 8000000 in
set_option maxRecDepth 100000 in
theorem profile_calls (bp N : Nat) (S : Nat → Prop) (F : List (List S51)) (w : World) (hB : Bk w S bp F N) (hN : N ≤ 1099511627776) :
    Calls Tryz.prog 15 #[.pointer (some ⟨bp, 0, none⟩)] w fun e w' => ∃ v, e = .returned (.agg #[v]) ∧ Kd.S kr 53 w' w.heap.size (fun k => w.heap.size ≤ k) v F ∧ Below w.heap.size w w' := by
  obtain ⟨mp, A, c, D, hBk⟩ := hB
  have HBk := Aside0.mk hBk
  have HN := Aside0.mk hN
  have hF := hBk.len.1
  clear hBk hN
  go_enter Tryz.func15, Tryz.ntmps15
  go_upto_region 2 with fail
  have H0 : Aside0 (PS w (.slice none 0 0) (zr F 0) ((w.alloc (.cells #[.slice none 0 0] 25)).alloc (.cells #[.slice none 0 0] 25))) := ⟨⟨blk_alloc (blk_new _ _) _, by simpa using blk_new (w.alloc (.cells #[.slice none 0 0] 25)) (.cells #[.slice none 0 0] 25), Kd.S_nil _ _ _ _ _, below_alloc (below_alloc (Below.refl _ _) _) _⟩⟩
  generalize (w.alloc (.cells #[.slice none 0 0] 25)).alloc (.cells #[.slice none 0 0] 25) = W0 at H0 ⊢
  have hc0 : W0.cell? ⟨bp, 0, none⟩ = some (.slice A F.length c) := (blk_cell (blk_below HBk.out.hb H0.out.below) 0).trans rfl
  go_wp2_with fail
  clear hc0
  go_loopw [16] (fun i wr => ∃ k : Nat, k ≤ F.length ∧ i = .int .i64 k ∧ ∃ v, Aside0 (PS w v (zr F k) wr)) (fun i _ => F.length - (intOf i).toNat)
  case atStart => exact ⟨0, by omega, rfl, _, H0⟩
  case round =>
    clear H0
    obtain ⟨k, hk, rfl, v, HI⟩ := hrel
    by_cases hlt : k < F.length
    · obtain ⟨ad, rfl, hs⟩ := Kd.at_int (Kd.R_reads' HBk.out.sizes).2.2 (k : Int) (by omega) (by simp; omega)
      have hrd : rd (F.map fun r => (r.length : Int)) (k : Int) = ((rw_ F k).length : Int) := by
        simp [rd, List.getD_eq_getElem?_getD, hlt, rw_]
      rw [hrd] at hs
      simp only [Int.toNat_natCast] at hs
      clear hrd
      have hs1 : wr.cell? (ad.add k) = some (.int .i64 ((rw_ F k).length : Int)) := pw_cell_below HI.out.below hs
      have hrow := HBk.out.len.2 k
      have HS := Aside0.mk (zr_succ hlt)
      generalize (rw_ F k).length = n at hs1 hrow HS
      clear hs
      go_wp2_with fail
      clear hs1
      replace HI := Aside0.mk (HI.out.next (below_drew (Below.refl _ wr)))
      refine start_ (n := 8) (S := fun w' => w'.cell? ⟨w.heap.size + 1, 0, none⟩ = some v) (ds := [7]) #[false, false, false, false, false, false, false, false] (by kernel_rfl) rfl rfl ((blk_cell HI.out.b3 0).trans rfl) (fun hHeld => ?_)
      refine with_tabW r15_5_tab r15_5_bits (fun HT_ HW_ => ?_)
      generalize World.drew wr = W2 at HI hHeld ⊢
      refine pure_ (i := 0) (N := some 20) (v := ?_) (a' := ?_) #[true, false, false, false, false, false, false, false] rfl rfl (any_of HT_.out (by kernel_rfl)) (fun _ _ _ h => h) (Or.inl ⟨by rfl, ?_⟩) ?_ ?_
      rotate_left
      · intro w'
        go_simp
        with_reducible rfl
      rotate_left
      · simp only [Act.put, List.setIfInBounds_toArray, List.set_cons_zero, List.set_cons_succ, i64_w, i32_w]
        rfl
      refine pure_ (i := 2) (N := some 22) (v := ?_) (a' := ?_) #[true, false, true, false, false, false, false, false] rfl rfl (any_of HT_.out (by kernel_rfl)) (fun _ _ _ h => h) (Or.inl ⟨by rfl, ?_⟩) ?_ ?_
      rotate_left
      · intro w'
        go_simp
        with_reducible rfl
      rotate_left
      · simp only [Act.put, List.setIfInBounds_toArray, List.set_cons_zero, List.set_cons_succ, i64_w, i32_w]
        rfl
      refine take_ (i := 1) (N := some 21) (v := ?_) (a' := ?_) #[true, true, true, false, false, false, false, false] rfl rfl (take_ofW HT_.out HW_.out (by kernel_rfl)) (fun _ _ _ h => h) (Or.inl ⟨by rfl, ?_⟩) hHeld ?_ ?_
      rotate_left
      · rintro w' s0
        go_simp
        with_reducible rfl
      rotate_left
      · simp only [Act.put, List.setIfInBounds_toArray, List.set_cons_zero, List.set_cons_succ, i64_w, i32_w]
        rfl
      refine one_ (i := 3) (N := some 23) #[true, true, true, true, false, false, false, false] rfl rfl (one_of HT_.out (by kernel_rfl)) (by decide) (fun K hK => ?_)
      refine Kd.R_make_step k51 (w0 := w) w.heap.size 51 (by rfl) rfl 53 (.tmp 22) (.tmp 22) rfl (n : Int) rfl rfl Tryz.underlying53 _ 24 info51_ rfl (by decide) (by omega) z51 (ok := fun k => W2.heap.size ≤ k) (okp := fun _ => False) (k51_mkM _ _ _ z51) (fun _ hk => hk.elim) (Nat.le_refl _) (by omega) (by omega) HI.out.below HI.out.below.size ?_
      intro v1 w1 hr1 hb1 hg1 hat1
      rw [Int.toNat_natCast] at hr1
      have bl1 : Below W2.heap.size W2 w1 := (Below.refl _ W2).grown hg1 (Nat.le_refl _) (fun j hj => by cases hj)
      have HI1 := Aside0.mk (HI.out.next bl1)
      have HO : Aside0 (Kd.S kr 53 w1 w.heap.size (fun q => True ∧ ¬ W2.heap.size ≤ q) v (zr F k)) := ⟨Kd.S_mono (Kd.S_below (Kd.S_bound HI.out.rows) bl1) (fun q hq => ⟨trivial, by have := hq.2.2.1; omega⟩)⟩
      have HV : Aside0 (∀ q, W2.heap.size ≤ q → True ∧ some q ≠ v.ownBlock) := ⟨fun q hq => ⟨trivial, fun e => by have := Kd.S_lt HI.out.rows q e.symm; omega⟩⟩
      obtain ⟨A1, c1, rfl⟩ := Kd.R_slice hr1
      rw [List.length_replicate] at hr1 ⊢
      have HR1 := Aside0.mk hr1
      clear hr1 bl1 hb1 hg1 hat1
      refine hK.out _ _ ((blk_cell HI1.out.b3 0).trans rfl) (fun hHeld => ?_)
      clear hK K
      refine norm_ (a' := ?_) ?_ ?_
      rotate_left
      · show Act.put _ (some 23) _ = _
        simp only [Act.put, List.setIfInBounds_toArray, List.set_cons_zero, List.set_cons_succ, i64_w, i32_w]
        rfl
      refine one_ (i := 4) (N := some 24) #[true, true, true, true, true, false, false, false] rfl rfl (one_of HT_.out (by kernel_rfl)) (by decide) (fun K hK => ?_)
      refine value_ (w1 := ?_) (v := ?_) (by rfl) rfl ?_ ?_
      rotate_left 2
      · go_simp
        constructor
        · rfl
        · rfl
      refine hK.out _ _ ((blk_cell (blk_alloc HI1.out.b3 _) 0).trans rfl) (fun hHeld => ?_)
      clear hK K
      refine norm_ (a' := ?_) ?_ ?_
      rotate_left
      · show Act.put _ (some 24) _ = _
        simp only [Act.put, List.setIfInBounds_toArray, List.set_cons_zero, List.set_cons_succ, i64_w, i32_w]
        rfl
      refine one_ (i := 5) (N := some 25) #[true, true, true, true, true, true, false, false] rfl rfl (one_of HT_.out (by kernel_rfl)) (by decide) (fun K hK => ?_)
      refine Kd.S_append_step kr (w0 := w) w.heap.size (by rfl) (.tmp 21) (.tmp 24) 23 53 (.slice none 0 0) 24 rfl Tryz.underlying23 info53_ rfl (by decide) (by omega) v (zr F k) (List.replicate n z51) [.slice A1 n c1] (fun _ => True) (fun q => W2.heap.size ≤ q) rfl rfl ⟨_, rfl, HR1.out⟩ HV.out (fun _ _ => trivial) HO.out HI1.out.below HI1.out.below.size (by rw [zr_len hk]; omega) ?_
      intro v2 w2 ho hb hg hat
      have B3 := Aside0.mk (blk_grown HI1.out.b3 hg (Kd.S_ne HI1.out.rows HI1.out.b3 (by decide)))
      have B2 := Aside0.mk (blk_grown HI1.out.b2 hg (Kd.S_ne HI1.out.rows HI1.out.b2 (by decide)))
      have HO2 := Aside0.mk ho
      have HB2 := Aside0.mk hb
      obtain ⟨A2, n2, c2, rfl⟩ : ∃ A2 n2 c2, v2 = .slice A2 n2 c2 := by
        obtain ⟨A2, c2, h⟩ := Kd.S_slice ho
        exact ⟨A2, _, c2, h⟩
      clear ho hb hg hat
      refine hK.out _ _ ((blk_cell B3.out 0).trans rfl) (fun hHeld => ?_)
      clear hK K
      refine norm_ (a' := ?_) ?_ ?_
      rotate_left
      · show Act.put _ (some 25) _ = _
        simp only [Act.put, List.setIfInBounds_toArray, List.set_cons_zero, List.set_cons_succ, i64_w, i32_w]
        rfl
      refine pure_ (i := 6) (N := some 26) (v := ?_) (a' := ?_) #[true, true, true, true, true, true, true, false] rfl rfl (any_of HT_.out (by kernel_rfl)) (fun _ _ _ h => h) (Or.inl ⟨by rfl, ?_⟩) ?_ ?_
      rotate_left
      · intro w'
        go_simp
        with_reducible rfl
      rotate_left
      · simp only [Act.put, List.setIfInBounds_toArray, List.set_cons_zero, List.set_cons_succ, i64_w, i32_w]
        rfl
      refine last_ (i := 7) (N := none) #[true, true, true, true, true, true, true, true] rfl rfl (one_of HT_.out (by kernel_rfl)) (by decide) (fun K hK => ?_)
      have hs3 : w2.cell? ⟨w.heap.size + 1, 0, none⟩ = some v := (blk_cell B3.out 0).trans rfl
      have hfs3 := blk_frozen B3.out 0
      refine skip_ (w1 := ?_) (by rfl) rfl ?_ ?_
      rotate_left
      · go_simp
        rfl
      refine hK.out _ _ ?_
      clear hK K
      refine done_ (done_of HT_.out (by kernel_rfl)) ?_
      clear hs3 hfs3 hHeld
      have HI3 : Aside0 (PS w (.slice A2 n2 c2) (zr F (k + 1)) (w2.setCell ⟨w.heap.size + 1, 0, none⟩ (.slice A2 n2 c2))) := ⟨⟨blk_far B2.out (p := ⟨w.heap.size + 1, 0, none⟩) (by show w.heap.size ≠ w.heap.size + 1; omega) _, blk_put B3.out 0 _ rfl, by rw [HS.out]; exact Kd.S_set HO2.out B3.out (by decide) 0 _, below_set HB2.out (Nat.le_succ _)⟩⟩
      clear HO HV HI1 HI HR1 B2 B3 HO2 HB2 HS
      go_wp2_with fail
      go_roundw
      case rel => exact ⟨k + 1, by omega, by go_num, _, HI3⟩
      case measure => simp [intOf]; omega
    · obtain rfl : k = F.length := by omega
      have hc1 : wr.cell? ⟨bp, 1, none⟩ = some (.map (some mp)) := (blk_cell (blk_below HBk.out.hb HI.out.below) 1).trans rfl
      have hown := BkAt.own_keep HBk.out.own (Turn.of_below HI.out.below (fun _ => False)) (fun h => h)
      go_wp2_with (first
        | (at_range; refine wpList_range_own _ rfl _ 77 rfl 90 80 keyed Tryz.underlying77 rp mp N D rfl hown ?_; intro w4 hrg0 hg0 hs0)
        | go_in)
      go_frame
      clear hc1 hown
      have hrs : w.heap.size ≤ wr.heap.size := HI.out.below.size
      replace HI := Aside0.mk (HI.out.next ((Below.refl _ wr).grown hg0 (Nat.le_refl _) (fun j hj => by cases hj)))
      generalize wr.heap.size = r at hrg0 hrs ⊢
      have HRG := Aside0.mk hrg0
      have HG : Aside0 (Got F D (Maps.has D) []) := ⟨⟨fun p hp => (by cases hp), fun i j _ h => .inl h⟩⟩
      have HC : Aside0 (([] : List (Int × Int)).length + size D ≤ size D) := ⟨by simp⟩
      have HP : Aside0 (Kd.R pk 90 w4 w.heap.size (fun _ => True) (.slice none 0 0) []) := ⟨Kd.R_nil _ _ _ _ _⟩
      clear hrg0 hg0 hs0
      go_loopw [6] (fun v6 wr => ∃ ps left cnt, Aside0 (wr.ranges Tryz.prog 90 rp mp r N D left cnt) ∧ Aside0 (PS w v (zr F F.length) wr) ∧ Aside0 (Kd.R pk 90 wr w.heap.size (fun _ => True) v6 ps) ∧ Aside0 (ps.length + cnt ≤ size D) ∧ Aside0 (Got F D left ps)) (fun _ wr => wr.rangeLeft mp r)
      case atStart => exact ⟨[], _, _, HRG, HI, HP, HC, HG⟩
      case round =>
        clear HI HRG HG HC HP
        obtain ⟨ps, left, cnt, HRG, HI, HP, HC, HG⟩ := hrel
        have hrg := HRG.out
        go_wp2_with (first
          | (at_next; refine wpList_next_ranges _ rfl _ rfl 90 keyed rp (fun p : Int × Int => pv p.1 p.2) id (fun key kl h => by obtain ⟨a, b, h, _⟩ := keyOf_inv h; exact ⟨(a, b), h⟩) (fun v y h => ⟨v, rfl⟩) mp r N D left cnt rfl hrg ?_ ?_)
          | go_in)
        · intro hc0 hl0
          have HM : Aside0 (∀ i j : Nat, InR F i j → Maps.has D (kp i j) = true → ((i : Int), (j : Int)) ∈ ps) := ⟨fun i j h1 h2 => (HG.out.2 i j h1 h2).resolve_left (by rw [hl0]; decide)⟩
          have HA := Aside0.mk HG.out.1
          have hlen : ps.length ≤ 1099511627776 := by have := HC.out; have := HN.out; have := HBk.out.own.size_le; omega
          have HS := Aside0.mk (sort_calls wr w.heap.size (fun _ => True) u6 ps HP.out (by omega))
          have HL := Aside0.mk hlen
          clear hl0 hc0 hrg HRG HC HG hlen
          go_wp2_with (first
            | (go_at_call 38; refine HS.out.mono ?_; rintro e w6 ⟨rfl, hg6, qs, hp6, hrow6⟩; refine Aside0.out (p := _) ?_)
            | go_in)
          have HI6 : Aside0 (PS w v (zr F F.length) w6) := ⟨⟨blk_grown HI.out.b2 hg6 (Kd.R_ne HP.out HI.out.b2 (by decide)), blk_grown HI.out.b3 hg6 (Kd.R_ne HP.out HI.out.b3 (by decide)), Kd.S_over' HI.out.rows (Kd.R_typed HP.out) (by decide) hg6, HI.out.below.grown hg6 HI.out.below.size (fun j hj => Kd.R_base HP.out j hj)⟩⟩
          have HA6 : Aside0 (∀ p ∈ qs, ∃ i j : Nat, p = ((i : Int), (j : Int)) ∧ InR F i j ∧ Maps.has D (kp i j) = true) := ⟨fun p hp => HA.out p (hp6.mem_iff.1 hp)⟩
          have HM6 : Aside0 (∀ i j : Nat, InR F i j → Maps.has D (kp i j) = true → ((i : Int), (j : Int)) ∈ qs) := ⟨fun i j h1 h2 => hp6.mem_iff.2 (HM.out i j h1 h2)⟩
          have hqs : qs.length ≤ 1099511627776 := by rw [hp6.length_eq]; exact HL.out
          have HR6 := Aside0.mk hrow6
          have HF6 := Aside0.mk (Fill.start F qs)
          obtain ⟨A6, c6, hu6, _⟩ := hrow6
          subst hu6
          obtain ⟨Av, cv, hv⟩ := Kd.S_slice HI6.out.rows
          rw [zr_len (Nat.le_refl _)] at hv
          subst hv
          clear HI HP HA HM HL HS hg6 hp6
          refine Aside0.mk ?_
          go_wp2_with fail
          go_loopw [45] (fun i wr => ∃ m : Nat, m ≤ qs.length ∧ i = .int .i64 m ∧ ∃ R, Aside0 (PS w (.slice Av F.length cv) R wr) ∧ Aside0 (Row2 wr (.slice A6 qs.length c6) qs) ∧ Aside0 (Fill F qs m R)) (fun i _ => qs.length - (intOf i).toNat)
          case atStart => exact ⟨0, by omega, rfl, _, HI6, HR6, HF6⟩
          case round =>
            clear HI6 HR6 HF6
            obtain ⟨m, hm, rfl, R, HI, HR, HF⟩ := hrel
            by_cases hlm : m < qs.length
            · have hgq : qs[m]? = some qs[m] := List.getElem?_eq_getElem hlm
              obtain ⟨i, j, hij, hin, hhas⟩ := HA6.out _ (List.getElem_mem hlm)
              rw [hij] at hgq
              clear hij
              obtain ⟨A7, c7, e7, h7⟩ := HR.out
              have e8 : A6 = A7 := by injection e7
              clear e7
              subst e8
              obtain ⟨g7, cells7, e9, hb7, hat7⟩ := h7 (by omega)
              subst e9
              have hx1 : wr.cell? ⟨g7, m * 2, none⟩ = some (.int .i64 (i : Int)) := (blk_cell hb7 _).trans (hat7 m _ hgq).1
              have hx2 : wr.cell? ⟨g7, m * 2 + 1, none⟩ = some (.int .i64 (j : Int)) := (blk_cell hb7 _).trans (hat7 m _ hgq).2
              obtain ⟨gv, cap, he, _, _⟩ := Kd.S_form HI.out.rows (by rw [HF.out.len]; have := hin.1; omega)
              have he2 : Av = some ⟨gv, 0, none⟩ := by injection he
              clear he
              subst he2
              have HIN := Aside0.mk hin
              have HGQ := Aside0.mk hgq
              have hspot : ∃ q : Nat, (∀ z, D.atKey (kp i j) z = pz q) ∧ w.heap[q]? = some (.cells (spc (gt F i j)) 87 (0, 0)) := by
                rcases HBk.out.spots i j hin with ⟨_, h, _⟩ | ⟨q, hp1, hp2, hp3, hp4⟩
                · rw [hhas] at h
                  cases h
                · exact ⟨q, hp2, hp4⟩
              obtain ⟨q, hqat, hqb⟩ := hspot
              have HQA := Aside0.mk hqat
              have HQB := Aside0.mk hqb
              clear hgq hhas h7 hb7 hat7 hqat hqb hin
              go_upto_region 16 with fail
              clear hx1 hx2
              have HB9 : Aside0 ((wr.alloc (.cells #[.int .i64 (i : Int), .int .i64 (j : Int)] 90)).drew.heap[wr.heap.size]? = some (.cells #[.int .i64 (i : Int), .int .i64 (j : Int)] 90 (0, 0))) := ⟨blk_new _ _⟩
              have bl9 : Below wr.heap.size wr (wr.alloc (.cells #[.int .i64 (i : Int), .int .i64 (j : Int)] 90)).drew := below_drew (below_alloc (Below.refl _ _) _)
              replace HI := Aside0.mk (HI.out.next bl9)
              replace HR := Aside0.mk (HR.out.below bl9)
              clear bl9
              generalize wr.alloc (.cells #[.int .i64 (i : Int), .int .i64 (j : Int)] 90) = W8 at HB9 HI HR ⊢
              generalize wr.heap.size = g9 at HB9 ⊢
              obtain ⟨vq, vps, hrun, hvq⟩ := (BkAt.own_keep HBk.out.own (Turn.of_below HI.out.below (fun _ => False)) (fun h => h)).lookup keyed Tryz.underlying77 (zero120 _) (show rp (.pointer none) = some (pz (-1), []) from rfl) (keyOf_mk (i : Int) (j : Int) (HBk.out.i64 HIN.out).1 (HBk.out.i64 HIN.out).2)
              have hvq2 : vq = .pointer (some ⟨q, 0, none⟩) := by
                rcases rp_inv hvq with ⟨e, e2⟩ | ⟨q2, e, e2⟩
                · exfalso
                  rw [HQA.out] at e2
                  have e3 := congrArg Prod.fst e2
                  simp only at e3
                  injection e3 with e3
                  injection e3 with _ e3
                  omega
                · rw [HQA.out] at e2
                  have e3 := congrArg Prod.fst e2
                  simp only at e3
                  injection e3 with e3
                  injection e3 with _ e3
                  rw [e]
                  have : q2 = q := by omega
                  rw [this]
              subst hvq2
              clear hvq HQA
              refine start_ (n := 7) (S := fun w' => w'.cell? ⟨bp, 1, none⟩ = some (.map (some mp)) ∧ w'.cell? ⟨g9, 0, none⟩ = some (.int .i64 (i : Int)) ∧ w'.cell? ⟨g9, 1, none⟩ = some (.int .i64 (j : Int)) ∧ (Instr.lookup 77 (.map (some mp)) (.agg #[.int .i64 (i : Int), .int .i64 (j : Int)]) false).run Tryz.prog w' = .ok (.pointer (some ⟨q, 0, none⟩)) w') (ds := []) #[false, false, false, false, false, false, false] (by kernel_rfl) rfl rfl ⟨(blk_cell (blk_below HBk.out.hb HI.out.below) 1).trans rfl, (blk_cell HB9.out 0).trans rfl, (blk_cell HB9.out 1).trans rfl, hrun⟩ (fun hHeld => ?_)
              refine with_tabW r15_16_tab r15_16_bits (fun HT_ HW_ => ?_)
              generalize World.drew W8 = W9 at HI HR HB9 hrun hHeld ⊢
              refine pure_ (i := 0) (N := some 49) (v := ?_) (a' := ?_) #[true, false, false, false, false, false, false] rfl rfl (any_of HT_.out (by kernel_rfl)) (fun _ _ _ h => h) (Or.inl ⟨by rfl, ?_⟩) ?_ ?_
              rotate_left
              · intro w'
                go_simp
                with_reducible rfl
              rotate_left
              · simp only [Act.put, List.setIfInBounds_toArray, List.set_cons_zero, List.set_cons_succ, i64_w, i32_w]
                rfl
              refine pure_ (i := 1) (N := some 50) (v := ?_) (a' := ?_) #[true, true, false, false, false, false, false] rfl rfl (any_of HT_.out (by kernel_rfl)) (fun _ _ _ h => h) (Or.inl ⟨by rfl, ?_⟩) ?_ ?_
              rotate_left
              · intro w'
                go_simp
                with_reducible rfl
              rotate_left
              · simp only [Act.put, List.setIfInBounds_toArray, List.set_cons_zero, List.set_cons_succ, i64_w, i32_w]
                rfl
              refine pure_ (i := 2) (N := some 51) (v := ?_) (a' := ?_) #[true, true, true, false, false, false, false] rfl rfl (any_of HT_.out (by kernel_rfl)) (fun _ _ _ h => h) (Or.inl ⟨by rfl, ?_⟩) ?_ ?_
              rotate_left
              · intro w'
                go_simp
                with_reducible rfl
              rotate_left
              · simp only [Act.put, List.setIfInBounds_toArray, List.set_cons_zero, List.set_cons_succ, i64_w, i32_w]
                rfl
              refine take_ (i := 3) (N := some 52) (v := ?_) (a' := ?_) #[true, true, true, true, false, false, false] rfl rfl (take_ofW HT_.out HW_.out (by kernel_rfl)) (fun _ _ _ h => h) (Or.inl ⟨by rfl, ?_⟩) hHeld ?_ ?_
              rotate_left
              · rintro w' ⟨s0, s1, s2, s3⟩
                go_simp
                with_reducible rfl
              rotate_left
              · simp only [Act.put, List.setIfInBounds_toArray, List.set_cons_zero, List.set_cons_succ, i64_w, i32_w]
                rfl
              refine take_ (i := 4) (N := some 53) (v := ?_) (a' := ?_) #[true, true, true, true, true, false, false] rfl rfl (take_ofW HT_.out HW_.out (by kernel_rfl)) (fun _ _ _ h => h) (Or.inl ⟨by rfl, ?_⟩) hHeld ?_ ?_
              rotate_left
              · rintro w' ⟨s0, s1, s2, s3⟩
                go_simp
                with_reducible rfl
              rotate_left
              · simp only [Act.put, List.setIfInBounds_toArray, List.set_cons_zero, List.set_cons_succ, i64_w, i32_w]
                rfl
              refine take_ (i := 5) (N := some 54) (v := ?_) (a' := ?_) #[true, true, true, true, true, true, false] rfl rfl (take_ofW HT_.out HW_.out (by kernel_rfl)) (fun _ _ _ h => h) (Or.inl ⟨by rfl, ?_⟩) hHeld ?_ ?_
              rotate_left
              · rintro w' ⟨s0, s1, s2, s3⟩
                go_simp
                with_reducible rfl
              rotate_left
              · simp only [Act.put, List.setIfInBounds_toArray, List.set_cons_zero, List.set_cons_succ, i64_w, i32_w]
                rfl
              refine pure_ (i := 6) (N := some 10) (v := ?_) (a' := ?_) #[true, true, true, true, true, true, true] rfl rfl (any_of HT_.out (by kernel_rfl)) (fun _ _ _ h => h) (Or.inl ⟨by rfl, ?_⟩) ?_ ?_
              rotate_left
              · intro w'
                go_simp
                with_reducible rfl
              rotate_left
              · simp only [Act.put, List.setIfInBounds_toArray, List.set_cons_zero, List.set_cons_succ, i64_w, i32_w]
                rfl
              refine done_ (done_of HT_.out (by kernel_rfl)) ?_
              clear hrun hHeld
              go_wp2_with fail
              replace HI := Aside0.mk (HI.out.next (below_drew (Below.refl _ W9)))
              replace HR := Aside0.mk (HR.out.below (below_drew (Below.refl _ W9)))
              replace HB9 : Aside0 (W9.drew.heap[g9]? = some (.cells #[.int .i64 (i : Int), .int .i64 (j : Int)] 90 (0, 0))) := ⟨HB9.out⟩
              have HQ9 : Aside0 (W9.drew.heap[q]? = some (.cells (spc (gt F i j)) 87 (0, 0))) := ⟨blk_below HQB.out HI.out.below⟩
              have HF2 := Aside0.mk (HF.out.step HIN.out HGQ.out)
              obtain ⟨gr, cr, cells, hcr, hbr, hle, hst, hwr⟩ := HI.out.write HF.out.len.symm (HF.out.inR HIN.out) (gt F i j)
              have HCR := Aside0.mk hcr
              have HBR := Aside0.mk hbr
              have HST := Aside0.mk (@hst)
              have HWR := Aside0.mk hwr
              have hj1 : (j : Int) < ((rw_ R i).length : Int) := by have := (HF.out.inR HIN.out).2; omega
              have hj0 : (0 : Int) ≤ (j : Int) := by omega
              have hi0 : (0 : Int) ≤ (i : Int) := by omega
              have hi1 : (i : Int) < (F.length : Int) := by have := HIN.out.1; omega
              clear hcr hbr hst hwr
              generalize gt F i j = s at HQ9 HST HWR HF2
              generalize (rw_ R i).length = nr at HCR hj1
              refine start_ (n := 27) (S := fun w' => w'.cell? ⟨w.heap.size + 1, 0, none⟩ = some (.slice (some ⟨gv, 0, none⟩) F.length cv) ∧ w'.cell? ⟨g9, 0, none⟩ = some (.int .i64 (i : Int)) ∧ w'.cell? ⟨g9, 1, none⟩ = some (.int .i64 (j : Int)) ∧ w'.cell? ⟨gv, i, none⟩ = some (.slice (some ⟨gr, 0, none⟩) nr cr) ∧ w'.cell? ⟨q, 1, none⟩ = some (.int .u16 s.f1) ∧ w'.cell? ⟨q, 2, none⟩ = some (.int .u16 s.f2) ∧ w'.cell? ⟨q, 3, none⟩ = some (.int .i64 s.f3)) (ds := [26]) #[false, false, false, false, false, false, false, false, false, false, false, false, false, false, false, false, false, false, false, false, false, false, false, false, false, false, false] (by kernel_rfl) rfl rfl ⟨(blk_cell HI.out.b3 0).trans rfl, (blk_cell HB9.out 0).trans rfl, (blk_cell HB9.out 1).trans rfl, HCR.out, (blk_cell HQ9.out 1).trans rfl, (blk_cell HQ9.out 2).trans rfl, (blk_cell HQ9.out 3).trans rfl⟩ (fun hHeld => ?_)
              refine with_tabW r15_17_tab r15_17_bits (fun HT_ HW_ => ?_)
              generalize World.drew W9 = W10 at HI HR HB9 HQ9 HCR HBR HST HWR hHeld ⊢
              refine pure_ (i := 0) (N := some 55) (v := ?_) (a' := ?_) #[true, false, false, false, false, false, false, false, false, false, false, false, false, false, false, false, false, false, false, false, false, false, false, false, false, false, false] rfl rfl (any_of HT_.out (by kernel_rfl)) (fun _ _ _ h => h) (Or.inl ⟨by rfl, ?_⟩) ?_ ?_
              rotate_left
              · intro w'
                go_simp
                with_reducible rfl
              rotate_left
              · simp only [Act.put, List.setIfInBounds_toArray, List.set_cons_zero, List.set_cons_succ, i64_w, i32_w]
                rfl
              refine pure_ (i := 2) (N := some 57) (v := ?_) (a' := ?_) #[true, false, true, false, false, false, false, false, false, false, false, false, false, false, false, false, false, false, false, false, false, false, false, false, false, false, false] rfl rfl (any_of HT_.out (by kernel_rfl)) (fun _ _ _ h => h) (Or.inl ⟨by rfl, ?_⟩) ?_ ?_
              rotate_left
              · intro w'
                go_simp
                with_reducible rfl
              rotate_left
              · simp only [Act.put, List.setIfInBounds_toArray, List.set_cons_zero, List.set_cons_succ, i64_w, i32_w]
                rfl
              refine pure_ (i := 6) (N := some 61) (v := ?_) (a' := ?_) #[true, false, true, false, false, false, true, false, false, false, false, false, false, false, false, false, false, false, false, false, false, false, false, false, false, false, false] rfl rfl (any_of HT_.out (by kernel_rfl)) (fun _ _ _ h => h) (Or.inl ⟨by rfl, ?_⟩) ?_ ?_
              rotate_left
              · intro w'
                go_simp
                with_reducible rfl
              rotate_left
              · simp only [Act.put, List.setIfInBounds_toArray, List.set_cons_zero, List.set_cons_succ, i64_w, i32_w]
                rfl
              refine pure_ (i := 8) (N := some 63) (v := ?_) (a' := ?_) #[true, false, true, false, false, false, true, false, true, false, false, false, false, false, false, false, false, false, false, false, false, false, false, false, false, false, false] rfl rfl (any_of HT_.out (by kernel_rfl)) (fun _ _ _ h => h) (Or.inl ⟨by rfl, ?_⟩) ?_ ?_
              rotate_left
              · intro w'
                go_simp
                with_reducible rfl
              rotate_left
              · simp only [Act.put, List.setIfInBounds_toArray, List.set_cons_zero, List.set_cons_succ, i64_w, i32_w]
                rfl
              refine pure_ (i := 9) (N := some 64) (v := ?_) (a' := ?_) #[true, false, true, false, false, false, true, false, true, true, false, false, false, false, false, false, false, false, false, false, false, false, false, false, false, false, false] rfl rfl (any_of HT_.out (by kernel_rfl)) (fun _ _ _ h => h) (Or.inl ⟨by rfl, ?_⟩) ?_ ?_
              rotate_left
              · intro w'
                go_simp
                with_reducible rfl
              rotate_left
              · simp only [Act.put, List.setIfInBounds_toArray, List.set_cons_zero, List.set_cons_succ, i64_w, i32_w]
                rfl
              refine pure_ (i := 10) (N := some 65) (v := ?_) (a' := ?_) #[true, false, true, false, false, false, true, false, true, true, true, false, false, false, false, false, false, false, false, false, false, false, false, false, false, false, false] rfl rfl (any_of HT_.out (by kernel_rfl)) (fun _ _ _ h => h) (Or.inl ⟨by rfl, ?_⟩) ?_ ?_
              rotate_left
              · intro w'
                go_simp
                with_reducible rfl
              rotate_left
              · simp only [Act.put, List.setIfInBounds_toArray, List.set_cons_zero, List.set_cons_succ, i64_w, i32_w]
                rfl
              refine pure_ (i := 12) (N := some 67) (v := ?_) (a' := ?_) #[true, false, true, false, false, false, true, false, true, true, true, false, true, false, false, false, false, false, false, false, false, false, false, false, false, false, false] rfl rfl (any_of HT_.out (by kernel_rfl)) (fun _ _ _ h => h) (Or.inl ⟨by rfl, ?_⟩) ?_ ?_
              rotate_left
              · intro w'
                go_simp
                with_reducible rfl
              rotate_left
              · simp only [Act.put, List.setIfInBounds_toArray, List.set_cons_zero, List.set_cons_succ, i64_w, i32_w]
                rfl
              refine pure_ (i := 13) (N := some 68) (v := ?_) (a' := ?_) #[true, false, true, false, false, false, true, false, true, true, true, false, true, true, false, false, false, false, false, false, false, false, false, false, false, false, false] rfl rfl (any_of HT_.out (by kernel_rfl)) (fun _ _ _ h => h) (Or.inl ⟨by rfl, ?_⟩) ?_ ?_
              rotate_left
              · intro w'
                go_simp
                with_reducible rfl
              rotate_left
              · simp only [Act.put, List.setIfInBounds_toArray, List.set_cons_zero, List.set_cons_succ, i64_w, i32_w]
                rfl
              refine pure_ (i := 14) (N := some 69) (v := ?_) (a' := ?_) #[true, false, true, false, false, false, true, false, true, true, true, false, true, true, true, false, false, false, false, false, false, false, false, false, false, false, false] rfl rfl (any_of HT_.out (by kernel_rfl)) (fun _ _ _ h => h) (Or.inl ⟨by rfl, ?_⟩) ?_ ?_
              rotate_left
              · intro w'
                go_simp
                with_reducible rfl
              rotate_left
              · simp only [Act.put, List.setIfInBounds_toArray, List.set_cons_zero, List.set_cons_succ, i64_w, i32_w]
                rfl
              refine pure_ (i := 16) (N := some 71) (v := ?_) (a' := ?_) #[true, false, true, false, false, false, true, false, true, true, true, false, true, true, true, false, true, false, false, false, false, false, false, false, false, false, false] rfl rfl (any_of HT_.out (by kernel_rfl)) (fun _ _ _ h => h) (Or.inl ⟨by rfl, ?_⟩) ?_ ?_
              rotate_left
              · intro w'
                go_simp
                with_reducible rfl
              rotate_left
              · simp only [Act.put, List.setIfInBounds_toArray, List.set_cons_zero, List.set_cons_succ, i64_w, i32_w]
                rfl
              refine pure_ (i := 17) (N := some 72) (v := ?_) (a' := ?_) #[true, false, true, false, false, false, true, false, true, true, true, false, true, true, true, false, true, true, false, false, false, false, false, false, false, false, false] rfl rfl (any_of HT_.out (by kernel_rfl)) (fun _ _ _ h => h) (Or.inl ⟨by rfl, ?_⟩) ?_ ?_
              rotate_left
              · intro w'
                go_simp
                with_reducible rfl
              rotate_left
              · simp only [Act.put, List.setIfInBounds_toArray, List.set_cons_zero, List.set_cons_succ, i64_w, i32_w]
                rfl
              refine pure_ (i := 18) (N := some 73) (v := ?_) (a' := ?_) #[true, false, true, false, false, false, true, false, true, true, true, false, true, true, true, false, true, true, true, false, false, false, false, false, false, false, false] rfl rfl (any_of HT_.out (by kernel_rfl)) (fun _ _ _ h => h) (Or.inl ⟨by rfl, ?_⟩) ?_ ?_
              rotate_left
              · intro w'
                go_simp
                with_reducible rfl
              rotate_left
              · simp only [Act.put, List.setIfInBounds_toArray, List.set_cons_zero, List.set_cons_succ, i64_w, i32_w]
                rfl
              refine pure_ (i := 20) (N := some 75) (v := ?_) (a' := ?_) #[true, false, true, false, false, false, true, false, true, true, true, false, true, true, true, false, true, true, true, false, true, false, false, false, false, false, false] rfl rfl (any_of HT_.out (by kernel_rfl)) (fun _ _ _ h => h) (Or.inl ⟨by rfl, ?_⟩) ?_ ?_
              rotate_left
              · intro w'
                go_simp
                with_reducible rfl
              rotate_left
              · simp only [Act.put, List.setIfInBounds_toArray, List.set_cons_zero, List.set_cons_succ, i64_w, i32_w]
                rfl
              refine pure_ (i := 21) (N := some 76) (v := ?_) (a' := ?_) #[true, false, true, false, false, false, true, false, true, true, true, false, true, true, true, false, true, true, true, false, true, true, false, false, false, false, false] rfl rfl (any_of HT_.out (by kernel_rfl)) (fun _ _ _ h => h) (Or.inl ⟨by rfl, ?_⟩) ?_ ?_
              rotate_left
              · intro w'
                go_simp
                with_reducible rfl
              rotate_left
              · simp only [Act.put, List.setIfInBounds_toArray, List.set_cons_zero, List.set_cons_succ, i64_w, i32_w]
                rfl
              refine pure_ (i := 22) (N := some 77) (v := ?_) (a' := ?_) #[true, false, true, false, false, false, true, false, true, true, true, false, true, true, true, false, true, true, true, false, true, true, true, false, false, false, false] rfl rfl (any_of HT_.out (by kernel_rfl)) (fun _ _ _ h => h) (Or.inl ⟨by rfl, ?_⟩) ?_ ?_
              rotate_left
              · intro w'
                go_simp
                with_reducible rfl
              rotate_left
              · simp only [Act.put, List.setIfInBounds_toArray, List.set_cons_zero, List.set_cons_succ, i64_w, i32_w]
                rfl
              refine take_ (i := 1) (N := some 56) (v := ?_) (a' := ?_) #[true, true, true, false, false, false, true, false, true, true, true, false, true, true, true, false, true, true, true, false, true, true, true, false, false, false, false] rfl rfl (take_ofW HT_.out HW_.out (by kernel_rfl)) (fun _ _ _ h => h) (Or.inl ⟨by rfl, ?_⟩) hHeld ?_ ?_
              rotate_left
              · rintro w' ⟨s0, s1, s2, s3, s4, s5, s6⟩
                go_simp
                with_reducible rfl
              rotate_left
              · simp only [Act.put, List.setIfInBounds_toArray, List.set_cons_zero, List.set_cons_succ, i64_w, i32_w]
                rfl
              refine take_ (i := 3) (N := some 58) (v := ?_) (a' := ?_) #[true, true, true, true, false, false, true, false, true, true, true, false, true, true, true, false, true, true, true, false, true, true, true, false, false, false, false] rfl rfl (take_ofW HT_.out HW_.out (by kernel_rfl)) (fun _ _ _ h => h) (Or.inl ⟨by rfl, ?_⟩) hHeld ?_ ?_
              rotate_left
              · rintro w' ⟨s0, s1, s2, s3, s4, s5, s6⟩
                go_simp
                with_reducible rfl
              rotate_left
              · simp only [Act.put, List.setIfInBounds_toArray, List.set_cons_zero, List.set_cons_succ, i64_w, i32_w]
                rfl
              refine take_ (i := 7) (N := some 62) (v := ?_) (a' := ?_) #[true, true, true, true, false, false, true, true, true, true, true, false, true, true, true, false, true, true, true, false, true, true, true, false, false, false, false] rfl rfl (take_ofW HT_.out HW_.out (by kernel_rfl)) (fun _ _ _ h => h) (Or.inl ⟨by rfl, ?_⟩) hHeld ?_ ?_
              rotate_left
              · rintro w' ⟨s0, s1, s2, s3, s4, s5, s6⟩
                go_simp
                with_reducible rfl
              rotate_left
              · simp only [Act.put, List.setIfInBounds_toArray, List.set_cons_zero, List.set_cons_succ, i64_w, i32_w]
                rfl
              refine pure_ (i := 4) (N := some 59) (v := ?_) (a' := ?_) #[true, true, true, true, true, false, true, true, true, true, true, false, true, true, true, false, true, true, true, false, true, true, true, false, false, false, false] rfl rfl (any_of HT_.out (by kernel_rfl)) (fun _ _ _ h => h) (Or.inl ⟨by rfl, ?_⟩) ?_ ?_
              rotate_left
              · intro w'
                go_simp
                with_reducible rfl
              rotate_left
              · simp only [Act.put, List.setIfInBounds_toArray, List.set_cons_zero, List.set_cons_succ, i64_w, i32_w]
                rfl
              refine take_ (i := 5) (N := some 60) (v := ?_) (a' := ?_) #[true, true, true, true, true, true, true, true, true, true, true, false, true, true, true, false, true, true, true, false, true, true, true, false, false, false, false] rfl rfl (take_ofW HT_.out HW_.out (by kernel_rfl)) (fun _ _ _ h => h) (Or.inl ⟨by rfl, ?_⟩) hHeld ?_ ?_
              rotate_left
              · rintro w' ⟨s0, s1, s2, s3, s4, s5, s6⟩
                go_simp
                with_reducible rfl
              rotate_left
              · simp only [Act.put, List.setIfInBounds_toArray, List.set_cons_zero, List.set_cons_succ, i64_w, i32_w]
                rfl
              refine take_ (i := 15) (N := some 70) (v := ?_) (a' := ?_) #[true, true, true, true, true, true, true, true, true, true, true, false, true, true, true, true, true, true, true, false, true, true, true, false, false, false, false] rfl rfl (take_ofW HT_.out HW_.out (by kernel_rfl)) (fun _ _ _ h => h) (Or.inl ⟨by rfl, ?_⟩) hHeld ?_ ?_
              rotate_left
              · rintro w' ⟨s0, s1, s2, s3, s4, s5, s6⟩
                go_simp
                with_reducible rfl
              rotate_left
              · simp only [Act.put, List.setIfInBounds_toArray, List.set_cons_zero, List.set_cons_succ, i64_w, i32_w]
                rfl
              refine take_ (i := 19) (N := some 74) (v := ?_) (a' := ?_) #[true, true, true, true, true, true, true, true, true, true, true, false, true, true, true, true, true, true, true, true, true, true, true, false, false, false, false] rfl rfl (take_ofW HT_.out HW_.out (by kernel_rfl)) (fun _ _ _ h => h) (Or.inl ⟨by rfl, ?_⟩) hHeld ?_ ?_
              rotate_left
              · rintro w' ⟨s0, s1, s2, s3, s4, s5, s6⟩
                go_simp
                with_reducible rfl
              rotate_left
              · simp only [Act.put, List.setIfInBounds_toArray, List.set_cons_zero, List.set_cons_succ, i64_w, i32_w]
                rfl
              refine take_ (i := 23) (N := some 78) (v := ?_) (a' := ?_) #[true, true, true, true, true, true, true, true, true, true, true, false, true, true, true, true, true, true, true, true, true, true, true, true, false, false, false] rfl rfl (take_ofW HT_.out HW_.out (by kernel_rfl)) (fun _ _ _ h => h) (Or.inl ⟨by rfl, ?_⟩) hHeld ?_ ?_
              rotate_left
              · rintro w' ⟨s0, s1, s2, s3, s4, s5, s6⟩
                go_simp
                with_reducible rfl
              rotate_left
              · simp only [Act.put, List.setIfInBounds_toArray, List.set_cons_zero, List.set_cons_succ, i64_w, i32_w]
                rfl
              refine one_ (i := 11) (N := some 66) #[true, true, true, true, true, true, true, true, true, true, true, true, true, true, true, true, true, true, true, true, true, true, true, true, false, false, false] rfl rfl (one_of HT_.out (by kernel_rfl)) (by decide) (fun K hK => ?_)
              refine goes_ Tryz.func42 (by kernel_rfl) rfl #[.pointer (some ⟨q, 0, none⟩)] (by rfl) rfl rfl (by (try simp only [List.map_toArray, List.map_cons, List.map_nil]); first | done | rfl) ?_
              refine (load_calls q s.f0 W10 ((blk_cell HQ9.out 0).trans rfl)).mono ?_
              rintro e w11 ⟨rfl, rfl⟩
              refine ⟨_, rfl, ?_⟩
              refine hK.out _ _ ⟨(blk_cell HI.out.b3 0).trans rfl, (blk_cell HB9.out 0).trans rfl, (blk_cell HB9.out 1).trans rfl, HCR.out, (blk_cell HQ9.out 1).trans rfl, (blk_cell HQ9.out 2).trans rfl, (blk_cell HQ9.out 3).trans rfl⟩ (fun hHeld => ?_)
              clear hK K
              refine norm_ (a' := ?_) ?_ ?_
              rotate_left
              · show Act.put _ (some 66) _ = _
                simp only [Act.put, List.setIfInBounds_toArray, List.set_cons_zero, List.set_cons_succ, i64_w, i32_w]
                rfl
              refine pure_ (i := 24) (N := some 79) (v := ?_) (a' := ?_) #[true, true, true, true, true, true, true, true, true, true, true, true, true, true, true, true, true, true, true, true, true, true, true, true, true, false, false] rfl rfl (any_of HT_.out (by kernel_rfl)) (fun _ _ _ h => h) (Or.inl ⟨by rfl, ?_⟩) ?_ ?_
              rotate_left
              · intro w'
                go_simp
                with_reducible rfl
              rotate_left
              · simp only [Act.put, List.setIfInBounds_toArray, List.set_cons_zero, List.set_cons_succ, i64_w, i32_w]
                rfl
              refine pure_ (i := 25) (N := some 80) (v := ?_) (a' := ?_) #[true, true, true, true, true, true, true, true, true, true, true, true, true, true, true, true, true, true, true, true, true, true, true, true, true, true, false] rfl rfl (any_of HT_.out (by kernel_rfl)) (fun _ _ _ h => h) (Or.inl ⟨by rfl, ?_⟩) ?_ ?_
              rotate_left
              · intro w'
                go_simp
                with_reducible rfl
              rotate_left
              · simp only [Act.put, List.setIfInBounds_toArray, List.set_cons_zero, List.set_cons_succ, i64_w, i32_w]
                rfl
              refine last_ (i := 26) (N := none) #[true, true, true, true, true, true, true, true, true, true, true, true, true, true, true, true, true, true, true, true, true, true, true, true, true, true, true] rfl rfl (one_of HT_.out (by kernel_rfl)) (by decide) (fun K hK => ?_)
              refine skip_ (w1 := w11.setCells gr (j * 4) (spc s).toList) (by rfl) rfl (HST.out (.tmp 80) (.tmp 79) rfl rfl rfl w11 (Below.refl _ _)) ?_
              refine hK.out _ _ ?_
              clear hK K
              refine done_ (done_of HT_.out (by kernel_rfl)) ?_
              obtain ⟨h1, h2⟩ := HWR.out w11 (Below.refl _ _)
              have HI12 := Aside0.mk h1
              have HR12 := Aside0.mk (HR.out.grown h2 HBR.out (by decide))
              clear h1 h2 hHeld HI HR HST HWR HCR HBR HB9 HQ9
              generalize w11.setCells gr (j * 4) (spc s).toList = W12 at HI12 HR12 ⊢
              go_wp2_with fail
              go_roundw
              case rel => exact ⟨m + 1, by omega, by go_num, _, HI12, HR12, HF2⟩
              case measure => simp [intOf]; omega
            · obtain rfl : m = qs.length := by omega
              have HE := Aside0.mk (HF.out.done HBk.out HM6.out)
              have hc3 : wr.cell? ⟨w.heap.size + 1, 0, none⟩ = some (.slice Av F.length cv) := (blk_cell HI.out.b3 0).trans rfl
              have hc2 : wr.cell? ⟨w.heap.size, 0, none⟩ = some (.slice none 0 0) := (blk_cell HI.out.b2 0).trans rfl
              have hf2 := blk_frozen HI.out.b2 0
              go_wp2_with fail
              refine bodyPost_ret (results_cell_row rfl _ _ w.heap.size 25 #[.slice Av F.length cv] (0, 0) _ rfl (blk_put HI.out.b2 0 _ rfl) Tryz.underlying25 rfl (by kernel_rfl)) rfl ?_
              have hR := Kd.S_bound (Kd.S_set HI.out.rows HI.out.b2 (by decide) 0 (.slice Av F.length cv))
              rw [HE.out] at hR
              exact ⟨_, rfl, Kd.S_mono hR (fun _ hk => hk.2.1), below_set HI.out.below (Nat.le_refl _)⟩
        · intro x1 x2 c0 kl y1 y2 w5 cnt1 hkey hlk hv hat hrg1 hlt1 hg1 hs1 hen
          have HG2 := Aside0.mk (HG.out.step HBk.out hkey hat)
          have HI2 := Aside0.mk (HI.out.iter HRG.out hg1 hrs)
          have HP2 := Aside0.mk (R_iter HP.out HRG.out hg1)
          have hsz := HBk.out.own.size_le
          have HC2 : Aside0 (ps.length + 1 + cnt1 ≤ size D) := ⟨by have := HC.out; omega⟩
          have hlen : (ps.length + 1) * 16 ≤ 140737488355328 := by have := HC.out; have := HN.out; omega
          have hlft := HRG.out.left_eq
          have HRG2 := Aside0.mk hrg1
          clear HG HI HP HC HRG hrg hg1 hs1 hkey hv hat hlk hrg1
          have HI3 := Aside0.mk (HI2.out.next (below_alloc (Below.refl _ w5) (.cells #[.int .i64 x1, .int .i64 x2] 90)))
          have HP3 := Aside0.mk (Kd.R_alloc HP2.out (.cells #[.int .i64 x1, .int .i64 x2] 90))
          have HRG3 := Aside0.mk (HRG2.out.alloc (.cells #[.int .i64 x1, .int .i64 x2] 90))
          have HZ : Aside0 ((w5.alloc (.cells #[.int .i64 x1, .int .i64 x2] 90)).heap.size = w5.heap.size + 1) := ⟨by simp⟩
          clear HI2 HP2 HRG2
          go_wp2_with (first
            | (at_builtin; refine Aside0.out (p := _) ?_)
            | go_in)
          refine Aside0.mk ?_
          refine Kd.R_append pk (w0 := w) (W := w5.alloc (.cells #[.int .i64 x1, .int .i64 x2] 90)) w.heap.size rfl (.tmp 37) (.tmp 39) 93 90 (.agg #[(.int .i64 0), (.int .i64 0)]) 16 rfl Tryz.underlying93 info90_ rfl (by decide) (by omega) u6 ps (x1, x2) [.int .i64 x1, .int .i64 x2] (fun _ => True) (fun _ => False) rfl (show _ = Value.slice (some ⟨(w5.alloc (.cells #[.int .i64 x1, .int .i64 x2] 90)).heap.size, 0, none⟩) 1 1 by rw [HZ.out]; rfl) ⟨[.int .i64 x1], [.int .i64 x2], rfl, rfl, rfl⟩ (fun _ hk => hk.elim) (fun _ _ => trivial) HP3.out HI3.out.below HI3.out.below.size hlen ?_
          intro v9 w9 ho hb hg hat9
          have hrne : some r ≠ u6.ownBlock := fun e => by
            obtain ⟨cells, hc⟩ := Kd.R_typed HP3.out r e.symm
            exact not_iter HRG3.out hc rfl
          have hmne : some mp ≠ u6.ownBlock := fun e => by
            obtain ⟨cells, hc⟩ := Kd.R_typed HP3.out mp e.symm
            obtain ⟨es, clock, hm, _⟩ := HRG3.out.owns
            rw [hm] at hc
            cases hc
          have HRG4 := Aside0.mk (HRG3.out.kept hg hmne hrne)
          have HI4 : Aside0 (PS w v (zr F F.length) w9) := ⟨⟨blk_grown HI3.out.b2 hg (Kd.R_ne HP3.out HI3.out.b2 (by decide)), blk_grown HI3.out.b3 hg (Kd.R_ne HP3.out HI3.out.b3 (by decide)), Kd.S_over' HI3.out.rows (Kd.R_typed HP3.out) (by decide) hg, hb⟩⟩
          have HP4 := Aside0.mk ho
          clear HI3 HP3 HRG3 HZ ho hb hg hat9 hrne hmne hen
          go_wp2_with fail
          go_roundw
          case rel => exact ⟨_, _, _, HRG4, HI4, HP4, ⟨by rw [List.length_append, List.length_singleton]; exact HC2.out⟩, HG2⟩
          case measure => rw [HRG4.out.left_eq, hlft]; exact hlt1
end Go.Proofs.YtjeaojolhdfpeaaGreat.BookP
