/- ProfileBook's law: whatever two programs, two profiles and whatever notes, it answers true, and what came in stands. -/
import Derived.Test.YtjeaojolhdfpeaaBookL
namespace Go.Proofs.Ytjeaojolhdfpeaa.BookLaw
open Go.RowKit Go.Maps Go.Proofs.YtjeaojolhdfpeaaW.PrintWords Go.Proofs.YtjeaojolhdfpeaaW.PrintLast Go.Proofs.YtjeaojolhdfpeaaW.PrintMore
open Go.Proofs.Ytjeaojolhdfpeaa.PProfileBook Go.Proofs.Ytjeaojolhdfpeaa.LentQ Go.Proofs.Ytjeaojolhdfpeaa.BookB Go.Proofs.Ytjeaojolhdfpeaa.BookN Go.Proofs.Ytjeaojolhdfpeaa.BookO Go.Proofs.Ytjeaojolhdfpeaa.BookU Go.Proofs.Ytjeaojolhdfpeaa.BookP Go.Proofs.Ytjeaojolhdfpeaa.BookT Go.Proofs.Ytjeaojolhdfpeaa.BookW Go.Proofs.Ytjeaojolhdfpeaa.BookL
set_option linter.unusedVariables false
set_option linter.unusedSimpArgs false

/-- What came in, boxed. -/
structure L0 (w : World) (pv qv : Array Value) (fv ov : Value) (W : World) : Prop where
  b5 : W.heap[w.heap.size]? = some (.cells pv 60 (0, 0))
  b6 : W.heap[w.heap.size + 1]? = some (.cells qv 60 (0, 0))
  b7 : W.heap[w.heap.size + 1 + 1]? = some (.cells #[fv] 24 (0, 0))
  b8 : W.heap[w.heap.size + 1 + 1 + 1]? = some (.cells #[ov] 24 (0, 0))
  below : Below w.heap.size w W
theorem L0.next {w W W1 : World} {pv qv : Array Value} {fv ov : Value} (h : L0 w pv qv fv ov W) (hb : Below W.heap.size W W1) : L0 w pv qv fv ov W1 :=
  ⟨blk_below h.b5 hb, blk_below h.b6 hb, blk_below h.b7 hb, blk_below h.b8 hb, below_step h.below hb⟩
/-- A profile that was lent, boxed. -/
structure PL (w : World) (l : List (List S28)) (N M g : Nat) (v : Value) (W : World) : Prop where
  row : Kd.R kx 77 W w.heap.size (fun k => N ≤ k ∧ k < M) v l
  box : W.heap[g]? = some (.cells #[v] 24 (0, 0))
  out : w.heap.size ≤ N ∧ M ≤ g
theorem PL.next {w W W1 : World} {l : List (List S28)} {N M g : Nat} {v : Value} (h : PL w l N M g v W) (hb : Below W.heap.size W W1) : PL w l N M g v W1 := ⟨Kd.R_below h.row hb, blk_below h.box hb, h.out⟩
theorem PL.make {w W W1 : World} {l : List (List S28)} {v : Value} (hr : Kd.R kx 77 W1 W.heap.size (fun k => W.heap.size ≤ k) v l) (hw : w.heap.size ≤ W.heap.size) : PL w l W.heap.size W1.heap.size W1.heap.size v (W1.alloc (.cells #[v] 24)) :=
  ⟨Kd.R_lower (Kd.R_alloc (Kd.R_mono (Kd.R_bound hr) (fun k hk => ⟨hk.1, hk.2.2.1⟩)) _) hw, blk_new _ _, hw, Nat.le_refl _⟩
/-- A book of one's own. -/
structure PB (w : World) (F : List (List S28)) (N n : Nat) (bp : Nat) (S : Nat → Prop) (M : Nat) (W : World) : Prop where
  book : Bk W S bp F n
  sub : ∀ k, S k → N ≤ k ∧ k < M
  out : w.heap.size ≤ N ∧ M ≤ W.heap.size
theorem PB.turn {w W W1 : World} {F : List (List S28)} {N n bp M : Nat} {S T : Nat → Prop} (h : PB w F N n bp S M W) (ht : Turn W W1 T) (hn : ∀ k, T k → k < N ∨ M ≤ k) : PB w F N n bp S M W1 :=
  ⟨h.book.turn ht (fun k hk hT => by have := h.sub k hk; have := hn k hT; omega), h.sub, h.out.1, Nat.le_trans h.out.2 ht.size⟩
theorem PB.next {w W W1 : World} {F : List (List S28)} {N n bp M : Nat} {S : Nat → Prop} (h : PB w F N n bp S M W) (hb : Below W.heap.size W W1) : PB w F N n bp S M W1 := h.turn (Turn.of_below hb (fun _ => False)) (fun _ h => h.elim)
theorem PB.make {w W W1 : World} {F : List (List S28)} {n bp : Nat} {S : Nat → Prop} (h : Bk W1 S bp F n) (hs : ∀ k, S k → W.heap.size ≤ k) (hw : w.heap.size ≤ W.heap.size) : PB w F W.heap.size n bp (fun k => S k ∧ k < W1.heap.size) W1.heap.size W1 :=
  ⟨Bk.shrink h, fun k hk => ⟨hs k hk.1, hk.2⟩, hw, Nat.le_refl _⟩

theorem L0.turn {w W W1 : World} {pv qv : Array Value} {fv ov : Value} {T : Nat → Prop} (h : L0 w pv qv fv ov W) (ht : Turn W W1 T) (hT : ∀ k, T k → w.heap.size + 1 + 1 + 1 < k) : L0 w pv qv fv ov W1 :=
  ⟨ht.heap h.b5 (fun e => by have := hT _ e; omega), ht.heap h.b6 (fun e => by have := hT _ e; omega), ht.heap h.b7 (fun e => by have := hT _ e; omega), ht.heap h.b8 (fun e => by have := hT _ e; omega), h.below.trans (ht.below (fun k hk => by have := hT k hk; omega) h.below.size)⟩
theorem PL.turn {w W W1 : World} {l : List (List S28)} {N M g : Nat} {v : Value} {T : Nat → Prop} (h : PL w l N M g v W) (ht : Turn W W1 T) (hT : ∀ k, T k → (k < N ∨ M ≤ k) ∧ k ≠ g) : PL w l N M g v W1 :=
  ⟨Kd.R_kept h.row ht.kept (fun k hk e => by have := hT k e; omega), ht.heap h.box (fun e => (hT g e).2 rfl), h.out⟩
/-- Where the law stands ahead of a note. -/
def LN (w0 : World) (bpa bpb g15 g16 m : Nat) (W : World) : Prop := ∃ Sa Sb F G Na Nb vf vg, LA w0 W bpa bpb g15 g16 Sa Sb F G F G Na Nb vf vg ∧ Na ≤ 1048576 + m ∧ Nb ≤ 1048576 + m
/-- Behind the reference's note: the book in question, and where the law stands once it has been told. -/
structure LT (w0 W : World) (bpx : Nat) (Sx : Nat → Prop) (Fx : List (List S28)) (Nx g18 : Nat) (n : Nt) (P : World → Prop) : Prop where
  below : Below w0.heap.size w0 W
  book : Bk W Sx bpx Fx Nx
  sx : ∀ k, Sx k → w0.heap.size ≤ k ∧ k < W.heap.size
  rg : Rg Fx
  g18 : ¬ Sx g18
  nx : Nx < 1099511627776
  back : ∀ W1 S', Bk W1 S' bpx (noteF Fx n.fn n.pc n.args n.callee) (Nx + 1) → (∀ k, S' k → Sx k ∨ W.heap.size ≤ k) → Turn W W1 Sx → P W1
theorem bk_lens {W : World} {S : Nat → Prop} {bp : Nat} {F : List (List S28)} {N : Nat} (h : Bk W S bp F N) : F.length ≤ 1099511627776 ∧ (∀ i, (rw_ F i).length ≤ 1099511627776) ∧ ∀ x ∈ F, x.length ≤ 9223372036854775807 := by
  obtain ⟨mp, A, c, D, h⟩ := h
  refine ⟨h.len.1, h.len.2, fun x hx => ?_⟩
  obtain ⟨i, hi, rfl⟩ := List.getElem_of_mem hx
  have := h.len.2 i
  simp [rw_, List.getD_eq_getElem?_getD, hi] at this
  omega
theorem pick_ev (a : Int) : ∃ r, portagekit_Pick.f a 2 = some r := by
  unfold portagekit_Pick.f
  rw [if_neg (by decide), if_neg (by decide)]
  split
  · exact ⟨_, rfl⟩
  · exact ⟨_, rfl⟩
def r8_27_T : Bool × List (List Nat × List Nat) := (true, [([], []), ([0], [0]), ([], []), ([1, 2, 1], [1, 2]), ([3, 3], [3]), ([4], [4]), ([5, 4, 4], [4, 5]), ([4], [4]), ([6, 7, 6, 4], [4, 6, 7]), ([4, 8], [4, 8]), ([9, 8, 0, 1, 2, 3, 4, 5, 6, 7, 8, 9], [9])])
def r8_27_B : List Nat := [0, 1, 0, 7, 15, 31, 63, 31, 255, 511, 1023]
theorem r8_27_tab : rtab .any (opsOf Try.f8 27) = r8_27_T := by kernel_rfl
theorem r8_27_bits : waitsOk r8_27_T.2 r8_27_B = true := by kernel_rfl
set_option maxHeartbeats 16000000 in
set_option maxRecDepth 100000 in
theorem law (A0 A1 A2 A3 A4 A5 A6 : Option Addr) (c0 c1 c2 c3 c4 c5 c6 : Nat) (gp gq : List S228) (fp fq : List S119) (lf lo : List (List S28)) (ns : List Nt) (w : World)
    (hp0 : Kd.C k228 w A0 gp.length gp) (hp1 : Kd.C k119 w A1 fp.length fp) (hq0 : Kd.C k228 w A2 gq.length gq) (hq1 : Kd.C k119 w A3 fq.length fq) (hf : Kd.C (Kd.slice 28 k28) w A4 lf.length lf) (ho : Kd.C (Kd.slice 28 k28) w A5 lo.length lo) (hn : Kd.C kNt w A6 ns.length ns)
    (e0 : gp.length ≤ c0) (e1 : fp.length ≤ c1) (e2 : gq.length ≤ c2) (e3 : fq.length ≤ c3) (e4 : lf.length ≤ c4) (e5 : lo.length ≤ c5) (e6 : ns.length ≤ c6)
    (lp : fp.length ≤ 1048576) (tp : tot fp fp.length ≤ 1048576) (lq : fq.length ≤ 1048576) (tq : tot fq fq.length ≤ 1048576)
    (ll : lf.length * 24 ≤ 140737488351232) (lr : ∀ x ∈ lf, x.length * 24 ≤ 140737488351232) (ol : lo.length * 24 ≤ 140737488351232) (or_ : ∀ x ∈ lo, x.length * 24 ≤ 140737488351232) (rf : Rg lf) (ro : Rg lo) (nl : ns.length ≤ 1048576) (na : ∀ x ∈ ns, x.args.length < 4398046511104) :
    Calls Try.prog 8 #[.agg #[.slice A0 gp.length c0, .slice A1 fp.length c1], .agg #[.slice A2 gq.length c2, .slice A3 fq.length c3], .agg #[.slice A4 lf.length c4], .agg #[.slice A5 lo.length c5], .slice A6 ns.length c6] w fun e w' => e = .returned (.bool true) ∧ Below w.heap.size w w' := by
  have HP0 := Aside0.mk hp0
  have HP1 := Aside0.mk hp1
  have HQ0 := Aside0.mk hq0
  have HQ1 := Aside0.mk hq1
  have HF := Aside0.mk hf
  have HO := Aside0.mk ho
  have HN := Aside0.mk hn
  have TP := Aside0.mk tp
  have TQ := Aside0.mk tq
  have LR := Aside0.mk lr
  have OR := Aside0.mk or_
  have RF := Aside0.mk rf
  have RO := Aside0.mk ro
  have NA := Aside0.mk na
  clear hp0 hp1 hq0 hq1 hf ho hn tp tq lr or_ rf ro na
  go_enter Try.func8, Try.ntmps8
  go_upto_region 1 with fail
  have H : Aside0 (L0 w #[.slice A0 gp.length c0, .slice A1 fp.length c1] #[.slice A2 gq.length c2, .slice A3 fq.length c3] (.slice A4 lf.length c4) (.slice A5 lo.length c5) ((((w.alloc (.cells #[.slice A0 gp.length c0, .slice A1 fp.length c1] 60)).alloc (.cells #[.slice A2 gq.length c2, .slice A3 fq.length c3] 60)).alloc (.cells #[.slice A4 lf.length c4] 24)).alloc (.cells #[.slice A5 lo.length c5] 24))) := ⟨by
    refine ⟨blk_alloc (blk_alloc (blk_alloc (blk_new _ _) _) _) _, ?_, ?_, ?_, below_alloc (below_alloc (below_alloc (below_alloc (Below.refl _ _) _) _) _) _⟩
    · have h1 := blk_alloc (blk_alloc (blk_new (w.alloc (.cells #[.slice A0 gp.length c0, .slice A1 fp.length c1] 60)) (.cells #[.slice A2 gq.length c2, .slice A3 fq.length c3] 60)) (.cells #[.slice A4 lf.length c4] 24)) (.cells #[.slice A5 lo.length c5] 24)
      simpa using h1
    · have h1 := blk_alloc (blk_new ((w.alloc (.cells #[.slice A0 gp.length c0, .slice A1 fp.length c1] 60)).alloc (.cells #[.slice A2 gq.length c2, .slice A3 fq.length c3] 60)) (.cells #[.slice A4 lf.length c4] 24)) (.cells #[.slice A5 lo.length c5] 24)
      simpa using h1
    · have h1 := blk_new (((w.alloc (.cells #[.slice A0 gp.length c0, .slice A1 fp.length c1] 60)).alloc (.cells #[.slice A2 gq.length c2, .slice A3 fq.length c3] 60)).alloc (.cells #[.slice A4 lf.length c4] 24)) (.cells #[.slice A5 lo.length c5] 24)
      simpa using h1⟩
  generalize (((w.alloc (.cells #[.slice A0 gp.length c0, .slice A1 fp.length c1] 60)).alloc (.cells #[.slice A2 gq.length c2, .slice A3 fq.length c3] 60)).alloc (.cells #[.slice A4 lf.length c4] 24)).alloc (.cells #[.slice A5 lo.length c5] 24) = W0 at H ⊢
  -- the two that are lent
  have hc7 : W0.cell? ⟨w.heap.size + 1 + 1, 0, none⟩ = some (.slice A4 lf.length c4) := (blk_cell H.out.b7 0).trans rfl
  go_wp2_with fail
  clear hc7
  refine (lent_calls A4 c4 lf W0 (Kd.C_below HF.out H.out.below) ll LR.out).mono ?_
  rintro e W1 ⟨vx, rfl, hr1, hb1⟩
  have HX := Aside0.mk (PL.make hr1 H.out.below.size)
  have HN0 : Aside0 (w.heap.size + 1 + 1 + 1 < W0.heap.size ∧ W0.heap.size ≤ W1.heap.size) := ⟨blk_lt H.out.b8, hb1.size⟩
  replace H := Aside0.mk (H.out.next (below_alloc hb1 (.cells #[vx] 24)))
  obtain ⟨Ax, cx, rfl⟩ := Kd.R_slice hr1
  clear hr1 hb1
  go_upto_region 2 with fail
  generalize W1.alloc (.cells #[.slice Ax lf.length cx] 24) = W2 at HX H ⊢
  generalize W1.heap.size = g11 at HX HN0 ⊢
  generalize W0.heap.size = N0 at HX HN0
  have hc8 : W2.cell? ⟨w.heap.size + 1 + 1 + 1, 0, none⟩ = some (.slice A5 lo.length c5) := (blk_cell H.out.b8 0).trans rfl
  go_wp2_with fail
  clear hc8
  refine (lent_calls A5 c5 lo W2 (Kd.C_below HO.out H.out.below) ol OR.out).mono ?_
  rintro e W3 ⟨vy, rfl, hr3, hb3⟩
  have HY := Aside0.mk (PL.make hr3 H.out.below.size)
  have bl3 := below_alloc hb3 (.cells #[vy] 24)
  have HXY : Aside0 (g11 < W2.heap.size ∧ W2.heap.size ≤ W3.heap.size) := ⟨blk_lt HX.out.box, hb3.size⟩
  replace H := Aside0.mk (H.out.next bl3)
  replace HX := Aside0.mk (HX.out.next bl3)
  obtain ⟨Ay, cy, rfl⟩ := Kd.R_slice hr3
  clear hr3 hb3 bl3
  go_upto_region 3 with fail
  generalize W3.alloc (.cells #[.slice Ay lo.length cy] 24) = W4 at HX HY H ⊢
  generalize W3.heap.size = g12 at HY HXY ⊢
  generalize W2.heap.size = N2 at HY HXY
  -- the two books
  have hc50 : W4.cell? ⟨w.heap.size, 0, none⟩ = some (.slice A0 gp.length c0) := (blk_cell H.out.b5 0).trans rfl
  have hc51 : W4.cell? ⟨w.heap.size, 1, none⟩ = some (.slice A1 fp.length c1) := (blk_cell H.out.b5 1).trans rfl
  have hc11 : W4.cell? ⟨g11, 0, none⟩ = some (.slice Ax lf.length cx) := (blk_cell HX.out.box 0).trans rfl
  have hlx : lf.length ≤ cx := (Kd.R_reads' HX.out.row).2.1
  have HCX := Aside0.mk (kx_C (Kd.R_reads' HX.out.row).2.2)
  go_wp2_with fail
  clear hc50 hc51 hc11
  refine (new_calls A0 c0 gp.length A1 c1 fp Ax cx lf W4 (Kd.C_below HP1.out H.out.below) HCX.out hlx lp TP.out).mono ?_
  rintro e W5 ⟨bpa, Sa, rfl, hB5, hS5, hb5⟩
  have HA := Aside0.mk (PB.make hB5 hS5 H.out.below.size)
  have HLA : Aside0 (g12 < W4.heap.size ∧ W4.heap.size ≤ W5.heap.size) := ⟨blk_lt HY.out.box, hb5.size⟩
  replace H := Aside0.mk (H.out.next hb5)
  replace HX := Aside0.mk (HX.out.next hb5)
  replace HY := Aside0.mk (HY.out.next hb5)
  clear HCX hB5 hS5 hb5
  go_upto_region 4 with fail
  generalize W4.heap.size = N4 at HA HLA
  have hc60 : W5.cell? ⟨w.heap.size + 1, 0, none⟩ = some (.slice A2 gq.length c2) := (blk_cell H.out.b6 0).trans rfl
  have hc61 : W5.cell? ⟨w.heap.size + 1, 1, none⟩ = some (.slice A3 fq.length c3) := (blk_cell H.out.b6 1).trans rfl
  have hc12 : W5.cell? ⟨g12, 0, none⟩ = some (.slice Ay lo.length cy) := (blk_cell HY.out.box 0).trans rfl
  have hly : lo.length ≤ cy := (Kd.R_reads' HY.out.row).2.1
  have HCY := Aside0.mk (kx_C (Kd.R_reads' HY.out.row).2.2)
  go_wp2_with fail
  clear hc60 hc61 hc12
  refine (new_calls A2 c2 gq.length A3 c3 fq Ay cy lo W5 (Kd.C_below HQ1.out H.out.below) HCY.out hly lq TQ.out).mono ?_
  rintro e W6 ⟨bpb, Sb, rfl, hB6, hS6, hb6⟩
  have HB := Aside0.mk (PB.make hB6 hS6 H.out.below.size)
  have HL6 : Aside0 (W5.heap.size ≤ W6.heap.size) := ⟨hb6.size⟩
  replace H := Aside0.mk (H.out.next hb6)
  replace HX := Aside0.mk (HX.out.next hb6)
  replace HY := Aside0.mk (HY.out.next hb6)
  replace HA := Aside0.mk (HA.out.next hb6)
  clear HCY hB6 hS6 hb6
  go_upto_region 5 with fail
  -- what was lent is as it was
  have hc11 : W6.cell? ⟨g11, 0, none⟩ = some (.slice Ax lf.length cx) := (blk_cell HX.out.box 0).trans rfl
  have hc7 : W6.cell? ⟨w.heap.size + 1 + 1, 0, none⟩ = some (.slice A4 lf.length c4) := (blk_cell H.out.b7 0).trans rfl
  go_wp2_with fail
  clear hc11 hc7
  refine (kept_calls Ax A4 cx c4 lf W6 (Kd.R_reads' HX.out.row).2.2 hlx (Kd.C_below HF.out H.out.below) e4 ll LR.out).mono ?_
  rintro e W7 ⟨rfl, hb7⟩
  replace H := Aside0.mk (H.out.next hb7)
  replace HX := Aside0.mk (HX.out.next hb7)
  replace HY := Aside0.mk (HY.out.next hb7)
  replace HA := Aside0.mk (HA.out.next hb7)
  replace HB := Aside0.mk (HB.out.next hb7)
  clear hb7
  have hc12 : W7.cell? ⟨g12, 0, none⟩ = some (.slice Ay lo.length cy) := (blk_cell HY.out.box 0).trans rfl
  have hc8 : W7.cell? ⟨w.heap.size + 1 + 1 + 1, 0, none⟩ = some (.slice A5 lo.length c5) := (blk_cell H.out.b8 0).trans rfl
  go_wp2_with fail
  clear hc12 hc8
  refine (kept_calls Ay A5 cy c5 lo W7 (Kd.R_reads' HY.out.row).2.2 hly (Kd.C_below HO.out H.out.below) e5 ol OR.out).mono ?_
  rintro e W8 ⟨rfl, hb8⟩
  replace H := Aside0.mk (H.out.next hb8)
  replace HX := Aside0.mk (HX.out.next hb8)
  replace HY := Aside0.mk (HY.out.next hb8)
  replace HA := Aside0.mk (HA.out.next hb8)
  replace HB := Aside0.mk (HB.out.next hb8)
  clear hb8
  -- what was lent is written over
  have hc11 : W8.cell? ⟨g11, 0, none⟩ = some (.slice Ax lf.length cx) := (blk_cell HX.out.box 0).trans rfl
  go_wp2_with fail
  clear hc11
  refine (scribble_any (w0 := w) (S := fun k => N0 ≤ k ∧ k < g11) (kx_R HX.out.row) (fun k hk => hk) (fun k hk => Nat.le_trans HX.out.out.1 hk.1) H.out.below).mono ?_
  rintro e W9 ⟨rfl, hb9, hk9⟩
  have t9 := Turn.of_kept H.out.below hb9 hk9
  replace H := Aside0.mk (H.out.turn t9 (fun k hk => by have := HN0.out; omega))
  replace HY := Aside0.mk (HY.out.turn t9 (fun k hk => by have := HXY.out; omega))
  replace HA := Aside0.mk (HA.out.turn t9 (fun k hk => by have := HXY.out; have := HLA.out; omega))
  replace HB := Aside0.mk (HB.out.turn t9 (fun k hk => by have := HXY.out; have := HLA.out; omega))
  clear hb9 hk9 t9 HX
  have hc12 : W9.cell? ⟨g12, 0, none⟩ = some (.slice Ay lo.length cy) := (blk_cell HY.out.box 0).trans rfl
  go_wp2_with fail
  clear hc12
  refine (scribble_any (w0 := w) (S := fun k => N2 ≤ k ∧ k < g12) (kx_R HY.out.row) (fun k hk => hk) (fun k hk => Nat.le_trans HY.out.out.1 hk.1) H.out.below).mono ?_
  rintro e W10 ⟨rfl, hb10, hk10⟩
  have t10 := Turn.of_kept H.out.below hb10 hk10
  have hN2 : w.heap.size + 1 + 1 + 1 < N2 := by have := HN0.out; have := HXY.out; have := HLA.out; have := HY.out.out; omega
  replace H := Aside0.mk (H.out.turn t10 (fun k hk => by omega))
  replace HA := Aside0.mk (HA.out.turn t10 (fun k hk => by have := HLA.out; omega))
  replace HB := Aside0.mk (HB.out.turn t10 (fun k hk => by have := HLA.out; omega))
  clear hb10 hk10 t10 HY hN2
  -- the reference's
  obtain ⟨k1, hk1⟩ := ref_new gp fp lf lp TP.out
  obtain ⟨k2, hk2⟩ := ref_new gq fq lo lq TQ.out
  have HK1 := Aside0.mk hk1
  have HK2 := Aside0.mk hk2
  clear hk1 hk2
  have hc50 : W10.cell? ⟨w.heap.size, 0, none⟩ = some (.slice A0 gp.length c0) := (blk_cell H.out.b5 0).trans rfl
  have hc51 : W10.cell? ⟨w.heap.size, 1, none⟩ = some (.slice A1 fp.length c1) := (blk_cell H.out.b5 1).trans rfl
  have hc7 : W10.cell? ⟨w.heap.size + 1 + 1, 0, none⟩ = some (.slice A4 lf.length c4) := (blk_cell H.out.b7 0).trans rfl
  go_wp2_with fail
  clear hc50 hc51 hc7
  refine (portageref18_New.calls k1 A0 c0 gp A1 c1 fp A4 c4 lf (newF fp lf fp.length) W10 (Kd.C_below HP0.out H.out.below) e0 (Kd.C_below HP1.out H.out.below) e1 (Kd.C_below HF.out H.out.below) e4 HK1.out).mono ?_
  rintro e W11 ⟨vf, rfl, hs11, hb11⟩
  have bl11 := below_alloc hb11 (.cells #[vf] 24)
  have HF1 : Aside0 (Kd.R kr 77 (W11.alloc (.cells #[vf] 24)) W10.heap.size (fun _ => True) vf (newF fp lf fp.length) ∧ (W11.alloc (.cells #[vf] 24)).heap[W11.heap.size]? = some (.cells #[vf] 24 (0, 0)) ∧ W10.heap.size ≤ W11.heap.size) := ⟨Kd.R_alloc (Kd.S_R hs11) _, blk_new _ _, hb11.size⟩
  have HM : Aside0 (W6.heap.size ≤ W10.heap.size) := ⟨HB.out.out.2⟩
  replace H := Aside0.mk (H.out.next bl11)
  replace HA := Aside0.mk (HA.out.next bl11)
  replace HB := Aside0.mk (HB.out.next bl11)
  obtain ⟨Af, cf, hvf⟩ := Kd.S_slice hs11
  subst hvf
  clear hs11 hb11 bl11
  go_upto_region 10 with fail
  generalize W11.alloc (.cells #[.slice Af (newF fp lf fp.length).length cf] 24) = W12 at HF1 H HA HB ⊢
  generalize W11.heap.size = g15 at HF1 ⊢
  generalize W10.heap.size = N10 at HF1 HM
  have hc60 : W12.cell? ⟨w.heap.size + 1, 0, none⟩ = some (.slice A2 gq.length c2) := (blk_cell H.out.b6 0).trans rfl
  have hc61 : W12.cell? ⟨w.heap.size + 1, 1, none⟩ = some (.slice A3 fq.length c3) := (blk_cell H.out.b6 1).trans rfl
  have hc8 : W12.cell? ⟨w.heap.size + 1 + 1 + 1, 0, none⟩ = some (.slice A5 lo.length c5) := (blk_cell H.out.b8 0).trans rfl
  go_wp2_with fail
  clear hc60 hc61 hc8
  refine (portageref18_New.calls k2 A2 c2 gq A3 c3 fq A5 c5 lo (newF fq lo fq.length) W12 (Kd.C_below HQ0.out H.out.below) e2 (Kd.C_below HQ1.out H.out.below) e3 (Kd.C_below HO.out H.out.below) e5 HK2.out).mono ?_
  rintro e W13 ⟨vg, rfl, hs13, hb13⟩
  have bl13 := below_alloc hb13 (.cells #[vg] 24)
  have HLN : Aside0 (LN w bpa bpb g15 W13.heap.size 0 (W13.alloc (.cells #[vg] 24))) := ⟨by
    have hg15 := blk_lt HF1.out.2.1
    have hA := (HA.out.next bl13)
    have hB := (HB.out.next bl13)
    have h1 := HLA.out
    have h2 := HM.out
    have h3 := HF1.out.2.2
    have h4 := hb13.size
    have h5 := H.out.below.size
    have h6 := (H.out.next bl13).below
    have h7 := HL6.out
    have h8 := HA.out.out.1
    refine ⟨_, _, _, _, _, _, _, vg, ⟨h6, hA.book, hB.book, fun k hk => ?_, fun k hk => ?_, ⟨blk_below HF1.out.2.1 bl13, fun e => ?_, fun e => ?_⟩, ⟨blk_new _ _, fun e => ?_, fun e => ?_⟩, ?_, ?_, RF.out.new fp fp.length, RO.out.new fq fq.length, ?_⟩, by have := TP.out; omega, by have := TQ.out; omega⟩
    · exact ⟨⟨by have := HA.out.sub k hk; have := HA.out.out; omega, by have := HA.out.sub k hk; have := HA.out.out; have := bl13.size; omega⟩, fun e => by have := HA.out.sub k hk; have := HB.out.sub k e; omega⟩
    · exact ⟨by have := HB.out.sub k hk; have := HB.out.out; omega, by have := HB.out.sub k hk; have := HB.out.out; have := bl13.size; omega⟩
    · have := HA.out.sub _ e
      have := HB.out.out
      omega
    · have := HB.out.sub _ e
      omega
    · have := HA.out.sub _ e
      have := HB.out.out
      omega
    · have := HB.out.sub _ e
      have := HB.out.out
      omega
    · exact Kd.R_lower (Kd.R_below (Kd.R_mono (Kd.R_bound HF1.out.1) (fun k hk => ⟨fun e => by have := HA.out.sub k e; have := hk.2.1; have := HB.out.out; omega, fun e => by have := HB.out.sub k e; have := hk.2.1; omega⟩)) bl13) (by have := HB.out.out; omega)
    · exact Kd.R_lower (Kd.R_alloc (Kd.R_mono (Kd.R_bound (Kd.S_R hs13)) (fun k hk => ⟨fun e => by have := HA.out.sub k e; have := hk.2.1; have := HB.out.out; omega, fun e => by have := HB.out.sub k e; have := hk.2.1; have := HB.out.out; omega⟩)) _) h5
    · exact ⟨by have := HB.out.out; omega, by omega, by omega⟩⟩
  replace H := Aside0.mk (H.out.next bl13)
  obtain ⟨Ag, cg, hvg⟩ := Kd.S_slice hs13
  subst hvg
  clear hs13 hb13 bl13 HA HB HM HF1 HK1 HK2 HLA HN0 HXY
  go_upto_region 11 with fail
  generalize W13.alloc (.cells #[.slice Ag (newF fq lo fq.length).length cg] 24) = W14 at HLN H ⊢
  generalize W13.heap.size = g16 at HLN ⊢
  clear H
  go_wp2_with fail
  go_loopw [17] (fun i wr => ∃ k : Nat, k ≤ ns.length ∧ i = .int .i64 k ∧ Aside0 (LN w bpa bpb g15 g16 k wr)) (fun i _ => ns.length - (intOf i).toNat)
  case atStart => exact ⟨0, Nat.zero_le _, rfl, HLN⟩
  case round =>
    clear HLN
    obtain ⟨k, hk, rfl, HLN⟩ := hrel
    by_cases hlt : k < ns.length
    · obtain ⟨Sa, Sb, F, G, Na, Nb, vf, vg, hLA, hNa, hNb⟩ := HLN.out
      have HL := Aside0.mk hLA
      obtain ⟨ad, A7, c7, rfl, h0, h1, h2, h3, h4, h5, e7, h7⟩ := at_Nt HN.out (k : Int) (by omega) (by omega)
      have hna : (rdN ns (k : Int)).args.length < 4398046511104 := NA.out _ (by
        simp only [rdN, Int.toNat_natCast, List.getD_eq_getElem?_getD, List.getElem?_eq_getElem hlt, Option.getD_some]
        exact List.getElem_mem hlt)
      simp only [Int.toNat_natCast] at h0 h1 h2 h3 h4 h5
      obtain ⟨n, hn⟩ : ∃ n, n = rdN ns (k : Int) := ⟨_, rfl⟩
      rw [← hn] at h0 h1 h2 h3 h4 h5 e7 h7 hna
      clear hn
      replace h0 := pw_cell_below hLA.below h0
      replace h1 := pw_cell_below hLA.below h1
      replace h2 := pw_cell_below hLA.below h2
      replace h3 := pw_cell_below hLA.below h3
      replace h4 := pw_cell_below hLA.below h4
      replace h5 := pw_cell_below hLA.below h5
      have H7 := Aside0.mk h7
      clear hLA HLN h7
      go_upto_region 15 with fail
      clear h0 h1 h2 h3 h4 h5
      have HG18 : Aside0 (¬ Sa wr.heap.size ∧ ¬ Sb wr.heap.size) := ⟨fun e => by have := (HL.out.sa _ e).1.2; omega, fun e => by have := (HL.out.sb _ e).2; omega⟩
      have B18 := Aside0.mk (blk_new wr (.cells #[.int .i64 n.on, .int .i64 n.fn, .int .i64 n.pc, .slice A7 n.args.length c7, .int .i64 n.callee, .bool n.ask] 67))
      replace HL := Aside0.mk (HL.out.next (below_alloc (Below.refl _ wr) (.cells #[.int .i64 n.on, .int .i64 n.fn, .int .i64 n.pc, .slice A7 n.args.length c7, .int .i64 n.callee, .bool n.ask] 67)))
      generalize wr.alloc (.cells #[.int .i64 n.on, .int .i64 n.fn, .int .i64 n.pc, .slice A7 n.args.length c7, .int .i64 n.callee, .bool n.ask] 67) = W15 at B18 HL ⊢
      generalize wr.heap.size = g18 at B18 HG18 ⊢
      obtain ⟨rp, hrp⟩ := pick_ev n.on
      have hon : W15.cell? ⟨g18, 0, none⟩ = some (.int .i64 n.on) := (blk_cell B18.out 0).trans rfl
      go_wp2_with fail
      clear hon
      refine (portagekit_Pick.calls n.on 2 rp W15 hrp).mono ?_
      rintro e W16 ⟨rfl, hd16⟩
      replace B18 := Aside0.mk (blk_below B18.out hd16.below)
      replace HL := Aside0.mk (HL.out.next hd16.below)
      clear hrp hd16
      have hlF := bk_lens HL.out.ba
      have hlG := bk_lens HL.out.bb
      obtain ⟨Avf, cvf, hvf⟩ := Kd.R_slice HL.out.rf
      subst hvf
      obtain ⟨Avg, cvg, hvg⟩ := Kd.R_slice HL.out.rg
      subst hvg
      have hrdF := Kd.R_reads' HL.out.rf
      have hrdG := Kd.R_reads' HL.out.rg
      obtain ⟨kF, hkF⟩ := ref_note F (by omega) (fun i => by have := hlF.2.1 i; omega) HL.out.ff n.fn n.pc n.args (by omega) n.callee
      obtain ⟨kG, hkG⟩ := ref_note G (by omega) (fun i => by have := hlG.2.1 i; omega) HL.out.gg n.fn n.pc n.args (by omega) n.callee
      have hC7 := Kd.C_below H7.out HL.out.below
      have HRF := Aside0.mk (portageref18_Note.calls kF Avf cvf F n.fn n.pc A7 c7 n.args n.callee (noteF F n.fn n.pc n.args n.callee) W16 hrdF.2.2 hrdF.2.1 hC7 e7 hkF)
      have HRG := Aside0.mk (portageref18_Note.calls kG Avg cvg G n.fn n.pc A7 c7 n.args n.callee (noteF G n.fn n.pc n.args n.callee) W16 hrdG.2.2 hrdG.2.1 hC7 e7 hkG)
      clear hlF hlG hrdF hrdG hkF hkG hC7
      have h1 : W16.cell? ⟨g18, 1, none⟩ = some (.int .i64 n.fn) := (blk_cell B18.out 1).trans rfl
      have h2 : W16.cell? ⟨g18, 2, none⟩ = some (.int .i64 n.pc) := (blk_cell B18.out 2).trans rfl
      have h3 : W16.cell? ⟨g18, 3, none⟩ = some (.slice A7 n.args.length c7) := (blk_cell B18.out 3).trans rfl
      have h4 : W16.cell? ⟨g18, 4, none⟩ = some (.int .i64 n.callee) := (blk_cell B18.out 4).trans rfl
      have h15 : W16.cell? ⟨g15, 0, none⟩ = some (.slice Avf F.length cvf) := (blk_cell HL.out.b15.1 0).trans rfl
      have h16 : W16.cell? ⟨g16, 0, none⟩ = some (.slice Avg G.length cvg) := (blk_cell HL.out.b16.1 0).trans rfl
      rcases Decidable.em (rp = 1) with hp | hp
      case' inl =>
        have hpb : (rp == 1) = true := by rw [hp]; rfl
        clear hp
        go_wp2_with fail
        clear h1 h2 h3 h4 h15 h16 hpb
        refine HRG.out.mono ?_
        rintro e W17 ⟨v17, rfl, hs17, hb17⟩
        obtain ⟨A17, n17, c17, rfl⟩ : ∃ A n c, v17 = .slice A n c := by
          obtain ⟨a, b, h⟩ := Kd.S_slice hs17
          exact ⟨a, _, b, h⟩
        have HL17 := Aside0.mk (HL.out.setG hb17 (Kd.S_R hs17))
        have B17 := Aside0.mk (blk_below HL.out.b16.1 hb17)
        have ne18 : g18 ≠ g16 := blk_ne B18.out HL.out.b16.1 (by decide)
        replace B18 := Aside0.mk (blk_far (blk_below B18.out hb17) (p := ⟨g16, 0, none⟩) ne18 (.slice A17 n17 c17))
        have hc16 : W17.cell? ⟨g16, 0, none⟩ = some (.slice Avg G.length cvg) := (blk_cell B17.out 0).trans rfl
        have hf16 := blk_frozen B17.out 0
        clear ne18 hs17 hb17 HL
        go_upto_region 20 with fail
        generalize W17.setCell ⟨g16, 0, none⟩ (.slice A17 n17 c17) = W19 at HL17 B18 ⊢
        have HT : Aside0 (LT w W19 bpb Sb G Nb g18 n (LN w bpa bpb g15 g16 (k + 1))) := ⟨⟨HL17.out.below, HL17.out.bb, HL17.out.sb, HL17.out.gg, HG18.out.2, by omega, fun W1 S' hB hs ht => ⟨_, _, _, _, _, _, _, _, HL17.out.toldB hB hs ht (HL17.out.gg.note _ _ _ _), by omega, by omega⟩⟩⟩
        clear hc16 hf16 HL17 B17
      case' inr =>
        have hpb : (rp == 1) = false := by simpa using hp
        clear hp
        go_wp2_with fail
        clear h1 h2 h3 h4 h15 h16 hpb
        refine HRF.out.mono ?_
        rintro e W17 ⟨v17, rfl, hs17, hb17⟩
        obtain ⟨A17, n17, c17, rfl⟩ : ∃ A n c, v17 = .slice A n c := by
          obtain ⟨a, b, h⟩ := Kd.S_slice hs17
          exact ⟨a, _, b, h⟩
        have HL17 := Aside0.mk (HL.out.setF hb17 (Kd.S_R hs17))
        have B17 := Aside0.mk (blk_below HL.out.b15.1 hb17)
        have ne18 : g18 ≠ g15 := blk_ne B18.out HL.out.b15.1 (by decide)
        replace B18 := Aside0.mk (blk_far (blk_below B18.out hb17) (p := ⟨g15, 0, none⟩) ne18 (.slice A17 n17 c17))
        have hc16 : W17.cell? ⟨g15, 0, none⟩ = some (.slice Avf F.length cvf) := (blk_cell B17.out 0).trans rfl
        have hf16 := blk_frozen B17.out 0
        clear ne18 hs17 hb17 HL
        go_upto_region 20 with fail
        generalize W17.setCell ⟨g15, 0, none⟩ (.slice A17 n17 c17) = W19 at HL17 B18 ⊢
        have HT : Aside0 (LT w W19 bpa Sa F Na g18 n (LN w bpa bpb g15 g16 (k + 1))) := ⟨⟨HL17.out.below, HL17.out.ba, fun j hj => (HL17.out.sa j hj).1, HL17.out.ff, HG18.out.1, by omega, fun W1 S' hB hs ht => ⟨_, _, _, _, _, _, _, _, HL17.out.toldA hB hs ht (HL17.out.ff.note _ _ _ _), by omega, by omega⟩⟩⟩
        clear hc16 hf16 HL17 B17
      all_goals
        have h0 : W19.cell? ⟨g18, 0, none⟩ = some (.int .i64 n.on) := (blk_cell B18.out 0).trans rfl
        have h1 : W19.cell? ⟨g18, 1, none⟩ = some (.int .i64 n.fn) := (blk_cell B18.out 1).trans rfl
        have h2 : W19.cell? ⟨g18, 2, none⟩ = some (.int .i64 n.pc) := (blk_cell B18.out 2).trans rfl
        have h3 : W19.cell? ⟨g18, 3, none⟩ = some (.slice A7 n.args.length c7) := (blk_cell B18.out 3).trans rfl
        have h4 : W19.cell? ⟨g18, 4, none⟩ = some (.int .i64 n.callee) := (blk_cell B18.out 4).trans rfl
        have h5 : W19.cell? ⟨g18, 5, none⟩ = some (.bool n.ask) := (blk_cell B18.out 5).trans rfl
        go_wp2_with fail
        clear h0 h1 h2 h3 h4 h5
        refine (tell_calls w _ _ _ _ n.on n.fn n.pc A7 c7 n.args n.callee n.ask W19 HT.out.book HT.out.sx HT.out.below H7.out e7 hna HT.out.nx HT.out.rg).mono ?_
        rintro e W20 ⟨rfl, S', hB20, hs20, ht20⟩
        have HLN := Aside0.mk (HT.out.back W20 S' hB20 hs20 ht20)
        replace B18 := Aside0.mk (ht20.heap B18.out HT.out.g18)
        clear hB20 hs20 ht20 HT HRF HRG
        generalize n.ask = ask at B18 ⊢
        have h5 : W20.cell? ⟨g18, 5, none⟩ = some (.bool ask) := (blk_cell B18.out 5).trans rfl
        cases ask
        · go_wp2_with fail
          go_roundw
          case rel => exact ⟨k + 1, by omega, by go_num, HLN⟩
          case measure => simp [intOf]; omega
        · obtain ⟨Sa2, Sb2, F2, G2, Na2, Nb2, vf2, vg2, hLA2, hNa2, hNb2⟩ := HLN.out
          have HL2 := Aside0.mk hLA2
          have HN2 := Aside0.mk (And.intro hNa2 hNb2)
          clear hLA2 hNa2 hNb2 HLN
          go_wp2_with fail
          clear h5
          refine (profile_calls bpa Na2 Sa2 F2 W20 HL2.out.ba (by have := HN2.out; omega)).mono ?_
          rintro e W21 ⟨v21, rfl, hs21, hb21⟩
          have HBL := Aside0.mk (below_alloc hb21 (.cells #[v21] 24))
          have HR21 : Aside0 (Kd.R kr 77 (W21.alloc (.cells #[v21] 24)) W20.heap.size (fun k => W20.heap.size ≤ k) v21 F2) := ⟨Kd.R_alloc (Kd.S_R hs21) _⟩
          have B20 := Aside0.mk (blk_new W21 (.cells #[v21] 24))
          obtain ⟨A21, c21, hv21⟩ := Kd.S_slice hs21
          subst hv21
          clear hs21 hb21 B18
          go_upto_region 24 with fail
          generalize W21.alloc (.cells #[.slice A21 F2.length c21] 24) = W22 at HR21 B20 HBL ⊢
          generalize W21.heap.size = g20 at B20 ⊢
          obtain ⟨Av2, cv2, hvf2⟩ := Kd.R_slice HL2.out.rf
          subst hvf2
          have hc20 : W22.cell? ⟨g20, 0, none⟩ = some (.slice A21 F2.length c21) := (blk_cell B20.out 0).trans rfl
          have hc15 : W22.cell? ⟨g15, 0, none⟩ = some (.slice Av2 F2.length cv2) := (blk_cell (blk_below HL2.out.b15.1 HBL.out) 0).trans rfl
          have hlens := bk_lens HL2.out.ba
          obtain ⟨ks, hks⟩ := same_self F2 (by omega) hlens.2.2
          have hr1 := Kd.R_reads' HR21.out
          have hr2 := Kd.R_reads' (Kd.R_below HL2.out.rf HBL.out)
          have HSP := Aside0.mk (portageref0_SameProfile.calls ks A21 c21 F2 Av2 cv2 F2 true W22 hr1.2.2 hr1.2.1 hr2.2.2 hr2.2.1 hks)
          clear hlens hks hr1 hr2
          go_wp2_with fail
          clear hc20 hc15
          refine HSP.out.mono ?_
          rintro e W23 ⟨rfl, hb23⟩
          replace HR21 := Aside0.mk (Kd.R_below HR21.out hb23)
          replace B20 := Aside0.mk (blk_below B20.out hb23)
          replace HBL := Aside0.mk (below_step HBL.out hb23)
          clear hb23 HSP
          have hc20 : W23.cell? ⟨g20, 0, none⟩ = some (.slice A21 F2.length c21) := (blk_cell B20.out 0).trans rfl
          go_wp2_with fail
          clear hc20
          refine (scribble_any (w0 := W20) (S := fun k => W20.heap.size ≤ k) HR21.out (fun k hk => hk) (fun k hk => hk) HBL.out).mono ?_
          rintro e W24 ⟨rfl, hb24, _⟩
          have HLN2 : Aside0 (LN w bpa bpb g15 g16 (k + 1) W24) := ⟨⟨_, _, _, _, _, _, _, _, HL2.out.next hb24, HN2.out.1, HN2.out.2⟩⟩
          clear HL2 HN2 HR21 B20 HBL hb24
          go_wp2_with fail
          go_roundw
          case rel => exact ⟨k + 1, by omega, by go_num, HLN2⟩
          case measure => simp [intOf]; omega
    · obtain rfl : k = ns.length := by omega
      obtain ⟨Sa, Sb, F, G, Na, Nb, vf, vg, hLA, hNa, hNb⟩ := HLN.out
      have HL := Aside0.mk (hLA.next (below_drew (Below.refl _ wr)))
      clear hLA HLN
      go_wp2_with fail
      obtain ⟨Avf, cvf, hvf⟩ := Kd.R_slice HL.out.rf
      subst hvf
      obtain ⟨Avg, cvg, hvg⟩ := Kd.R_slice HL.out.rg
      subst hvg
      have hlF := bk_lens HL.out.ba
      have hlG := bk_lens HL.out.bb
      obtain ⟨kF, hkF⟩ := same_self F (by omega) hlF.2.2
      obtain ⟨kG, hkG⟩ := same_self G (by omega) hlG.2.2
      have HKF := Aside0.mk hkF
      have HKG := Aside0.mk hkG
      clear hlF hlG hkF hkG
      refine start_ (n := 11) (S := fun w' => w'.cell? ⟨g15, 0, none⟩ = some (.slice Avf F.length cvf) ∧ w'.cell? ⟨g16, 0, none⟩ = some (.slice Avg G.length cvg)) (ds := []) #[false, false, false, false, false, false, false, false, false, false, false] (by kernel_rfl) rfl rfl ⟨(blk_cell HL.out.b15.1 0).trans rfl, (blk_cell HL.out.b16.1 0).trans rfl⟩ (fun hHeld => ?_)
      refine with_tabW r8_27_tab r8_27_bits (fun HT_ HW_ => ?_)
      generalize World.drew wr = W30 at HL hHeld ⊢
      refine pure_ (i := 0) (N := some 109) (v := ?_) (a' := ?_) #[true, false, false, false, false, false, false, false, false, false, false] rfl rfl (any_of HT_.out (by kernel_rfl)) (fun _ _ _ h => h) (Or.inl ⟨by rfl, ?_⟩) ?_ ?_
      rotate_left
      · intro w'
        go_simp
        with_reducible rfl
      rotate_left
      · simp only [Act.put, List.setIfInBounds_toArray, List.set_cons_zero, List.set_cons_succ, i64_w, i32_w]
        rfl
      refine take_ (i := 2) (N := some 111) (v := ?_) (a' := ?_) #[true, false, true, false, false, false, false, false, false, false, false] rfl rfl (take_ofW HT_.out HW_.out (by kernel_rfl)) (fun _ _ _ h => h) (Or.inl ⟨by rfl, ?_⟩) hHeld ?_ ?_
      rotate_left
      · rintro w' ⟨s0, s1⟩
        go_simp
        with_reducible rfl
      rotate_left
      · simp only [Act.put, List.setIfInBounds_toArray, List.set_cons_zero, List.set_cons_succ, i64_w, i32_w]
        rfl
      refine one_ (i := 1) (N := some 110) #[true, true, true, false, false, false, false, false, false, false, false] rfl rfl (one_of HT_.out (by kernel_rfl)) (by decide) (fun K hK => ?_)
      refine goes_ Try.func37 (by kernel_rfl) rfl #[.pointer (some ⟨bpa, 0, none⟩)] (by rfl) rfl rfl (by (try simp only [List.map_toArray, List.map_cons, List.map_nil]); first | done | rfl) ?_
      refine (profile_calls bpa Na Sa F W30 HL.out.ba (by omega)).mono ?_
      rintro e W31 ⟨v31, rfl, hs31, hb31⟩
      refine ⟨_, rfl, ?_⟩
      replace HL := Aside0.mk (HL.out.next hb31)
      obtain ⟨A31, c31, hv31⟩ := Kd.S_slice hs31
      subst hv31
      have hr1 := Kd.R_reads' (Kd.S_R hs31)
      have hr2 := Kd.R_reads' HL.out.rf
      have HSP := Aside0.mk (portageref0_SameProfile.calls kF A31 c31 F Avf cvf F true W31 hr1.2.2 hr1.2.1 hr2.2.2 hr2.2.1 HKF.out)
      clear hs31 hb31 hr1 hr2
      refine hK.out _ _ ⟨(blk_cell HL.out.b15.1 0).trans rfl, (blk_cell HL.out.b16.1 0).trans rfl⟩ (fun hHeld => ?_)
      clear hK K
      refine norm_ (a' := ?_) ?_ ?_
      rotate_left
      · show Act.put _ (some 110) _ = _
        simp only [Act.put, List.setIfInBounds_toArray, List.set_cons_zero, List.set_cons_succ, i64_w, i32_w]
        rfl
      refine one_ (i := 3) (N := some 112) #[true, true, true, true, false, false, false, false, false, false, false] rfl rfl (one_of HT_.out (by kernel_rfl)) (by decide) (fun K hK => ?_)
      refine goes_ Try.func23 (by kernel_rfl) rfl #[.agg #[.slice A31 F.length c31], .agg #[.slice Avf F.length cvf]] (by rfl) rfl rfl (by (try simp only [List.map_toArray, List.map_cons, List.map_nil]); first | done | rfl) ?_
      refine (HSP.out).mono ?_
      rintro e W32 ⟨rfl, hb32⟩
      refine ⟨_, rfl, ?_⟩
      replace HL := Aside0.mk (HL.out.next hb32)
      clear hb32 HSP
      refine hK.out _ _ ⟨(blk_cell HL.out.b15.1 0).trans rfl, (blk_cell HL.out.b16.1 0).trans rfl⟩ (fun hHeld => ?_)
      clear hK K
      refine norm_ (a' := ?_) ?_ ?_
      rotate_left
      · show Act.put _ (some 112) _ = _
        simp only [Act.put, List.setIfInBounds_toArray, List.set_cons_zero, List.set_cons_succ, i64_w, i32_w]
        rfl
      refine pure_ (i := 4) (N := some 113) (v := ?_) (a' := ?_) #[true, true, true, true, true, false, false, false, false, false, false] rfl rfl (any_of HT_.out (by kernel_rfl)) (fun _ _ _ h => h) (Or.inl ⟨by rfl, ?_⟩) ?_ ?_
      rotate_left
      · intro w'
        go_simp
        with_reducible rfl
      rotate_left
      · simp only [Act.put, List.setIfInBounds_toArray, List.set_cons_zero, List.set_cons_succ, i64_w, i32_w]
        rfl
      refine pure_ (i := 5) (N := some 114) (v := ?_) (a' := ?_) #[true, true, true, true, true, true, false, false, false, false, false] rfl rfl (any_of HT_.out (by kernel_rfl)) (fun _ _ _ h => h) (Or.inl ⟨by rfl, ?_⟩) ?_ ?_
      rotate_left
      · intro w'
        go_simp
        with_reducible rfl
      rotate_left
      · simp only [Act.put, List.setIfInBounds_toArray, List.set_cons_zero, List.set_cons_succ, i64_w, i32_w]
        rfl
      refine take_ (i := 7) (N := some 116) (v := ?_) (a' := ?_) #[true, true, true, true, true, true, false, true, false, false, false] rfl rfl (take_ofW HT_.out HW_.out (by kernel_rfl)) (fun _ _ _ h => h) (Or.inl ⟨by rfl, ?_⟩) hHeld ?_ ?_
      rotate_left
      · rintro w' ⟨s0, s1⟩
        go_simp
        with_reducible rfl
      rotate_left
      · simp only [Act.put, List.setIfInBounds_toArray, List.set_cons_zero, List.set_cons_succ, i64_w, i32_w]
        rfl
      refine one_ (i := 6) (N := some 115) #[true, true, true, true, true, true, true, true, false, false, false] rfl rfl (one_of HT_.out (by kernel_rfl)) (by decide) (fun K hK => ?_)
      refine goes_ Try.func37 (by kernel_rfl) rfl #[.pointer (some ⟨bpb, 0, none⟩)] (by rfl) rfl rfl (by (try simp only [List.map_toArray, List.map_cons, List.map_nil]); first | done | rfl) ?_
      refine (profile_calls bpb Nb Sb G W32 HL.out.bb (by omega)).mono ?_
      rintro e W33 ⟨v33, rfl, hs33, hb33⟩
      refine ⟨_, rfl, ?_⟩
      replace HL := Aside0.mk (HL.out.next hb33)
      obtain ⟨A33, c33, hv33⟩ := Kd.S_slice hs33
      subst hv33
      have hr1 := Kd.R_reads' (Kd.S_R hs33)
      have hr2 := Kd.R_reads' HL.out.rg
      have HSP := Aside0.mk (portageref0_SameProfile.calls kG A33 c33 G Avg cvg G true W33 hr1.2.2 hr1.2.1 hr2.2.2 hr2.2.1 HKG.out)
      clear hs33 hb33 hr1 hr2
      refine hK.out _ _ ⟨(blk_cell HL.out.b15.1 0).trans rfl, (blk_cell HL.out.b16.1 0).trans rfl⟩ (fun hHeld => ?_)
      clear hK K
      refine norm_ (a' := ?_) ?_ ?_
      rotate_left
      · show Act.put _ (some 115) _ = _
        simp only [Act.put, List.setIfInBounds_toArray, List.set_cons_zero, List.set_cons_succ, i64_w, i32_w]
        rfl
      refine one_ (i := 8) (N := some 117) #[true, true, true, true, true, true, true, true, true, false, false] rfl rfl (one_of HT_.out (by kernel_rfl)) (by decide) (fun K hK => ?_)
      refine goes_ Try.func23 (by kernel_rfl) rfl #[.agg #[.slice A33 G.length c33], .agg #[.slice Avg G.length cvg]] (by rfl) rfl rfl (by (try simp only [List.map_toArray, List.map_cons, List.map_nil]); first | done | rfl) ?_
      refine (HSP.out).mono ?_
      rintro e W34 ⟨rfl, hb34⟩
      refine ⟨_, rfl, ?_⟩
      replace HL := Aside0.mk (HL.out.next hb34)
      clear hb34 HSP
      refine hK.out _ _ ⟨(blk_cell HL.out.b15.1 0).trans rfl, (blk_cell HL.out.b16.1 0).trans rfl⟩ (fun hHeld => ?_)
      clear hK K
      refine norm_ (a' := ?_) ?_ ?_
      rotate_left
      · show Act.put _ (some 117) _ = _
        simp only [Act.put, List.setIfInBounds_toArray, List.set_cons_zero, List.set_cons_succ, i64_w, i32_w]
        rfl
      refine pure_ (i := 9) (N := some 118) (v := ?_) (a' := ?_) #[true, true, true, true, true, true, true, true, true, true, false] rfl rfl (any_of HT_.out (by kernel_rfl)) (fun _ _ _ h => h) (Or.inl ⟨by rfl, ?_⟩) ?_ ?_
      rotate_left
      · intro w'
        go_simp
        with_reducible rfl
      rotate_left
      · simp only [Act.put, List.setIfInBounds_toArray, List.set_cons_zero, List.set_cons_succ, i64_w, i32_w]
        rfl
      refine pure_ (i := 10) (N := some 10) (v := ?_) (a' := ?_) #[true, true, true, true, true, true, true, true, true, true, true] rfl rfl (any_of HT_.out (by kernel_rfl)) (fun _ _ _ h => h) (Or.inl ⟨by rfl, ?_⟩) ?_ ?_
      rotate_left
      · intro w'
        go_simp
        with_reducible rfl
      rotate_left
      · simp only [Act.put, List.setIfInBounds_toArray, List.set_cons_zero, List.set_cons_succ, i64_w, i32_w]
        rfl
      refine done_ (done_of HT_.out (by kernel_rfl)) ?_
      go_wp2_with fail
      go_ret
      exact ⟨rfl, HL.out.below⟩
end Go.Proofs.Ytjeaojolhdfpeaa.BookLaw
