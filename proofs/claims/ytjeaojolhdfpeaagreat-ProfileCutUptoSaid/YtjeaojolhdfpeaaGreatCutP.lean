/- ProfileCut: what notes come to, in any order and cut in two in any way. No program is walked. -/
import Derived.Test.YtjeaojolhdfpeaaGreatMeetsP
import Derived.Test.YtjeaojolhdfpeaaGreatBookT
namespace Go.Proofs.YtjeaojolhdfpeaaGreat.CutP
open Go.RowKit Go.Maps Go.Proofs.YtjeaojolhdfpeaaGreatW.PrintWords Go.Proofs.YtjeaojolhdfpeaaGreatW.PrintLast Go.Proofs.YtjeaojolhdfpeaaGreatW.PrintMore
open Go.Proofs.YtjeaojolhdfpeaaGreat.PProfileCut Go.Proofs.YtjeaojolhdfpeaaGreat.BookB Go.Proofs.YtjeaojolhdfpeaaGreat.BookN Go.Proofs.YtjeaojolhdfpeaaGreat.BookO Go.Proofs.YtjeaojolhdfpeaaGreat.MergeP Go.Proofs.YtjeaojolhdfpeaaGreat.MeetsP
set_option linter.unusedVariables false
set_option linter.unusedSimpArgs false

/-! ### A note as it comes -/
structure Nt where
  on : Int
  fn : Int
  pc : Int
  args : List S48
  callee : Int
  ask : Bool
def zNt : Nt := ⟨0, 0, 0, [], 0, false⟩
def kNt : Kd Nt := Kd.iso (Kd.pair (Kd.int .i64) (Kd.pair (Kd.int .i64) (Kd.pair (Kd.int .i64) (Kd.pair (Kd.slice 48 k48) (Kd.pair (Kd.int .i64) Kd.bool))))) (fun x : Nt => (x.on, x.fn, x.pc, x.args, x.callee, x.ask))
theorem kNt_open {w : World} {x : Nt} {cs : List Value} (h : kNt.K w x cs) : ∃ A c, cs = [.int .i64 x.on, .int .i64 x.fn, .int .i64 x.pc, .slice A x.args.length c, .int .i64 x.callee, .bool x.ask] ∧ x.args.length ≤ c ∧ k48.C w A x.args.length x.args := by
  obtain ⟨_, _, rfl, rfl, ⟨_, _, rfl, rfl, ⟨_, _, rfl, rfl, ⟨_, _, rfl, ⟨A, c, rfl, l, g⟩, ⟨_, _, rfl, rfl, rfl⟩⟩⟩⟩⟩ := h
  exact ⟨A, c, rfl, l, g⟩
def rdN (xs : List Nt) (i : Int) : Nt := xs.getD i.toNat zNt
theorem at_Nt {w : World} {A : Option Addr} {n : Nat} {xs : List Nt} (h : Kd.C kNt w A n xs) (i : Int) (h0 : 0 ≤ i) (h1 : i < n) : ∃ ad A3 c3, A = some ad ∧ w.cell? (ad.add (i.toNat * 6)) = some (.int .i64 (rdN xs i).on) ∧
    w.cell? ⟨(ad.add (i.toNat * 6)).block, (ad.add (i.toNat * 6)).off + 1, none⟩ = some (.int .i64 (rdN xs i).fn) ∧ w.cell? ⟨(ad.add (i.toNat * 6)).block, (ad.add (i.toNat * 6)).off + 2, none⟩ = some (.int .i64 (rdN xs i).pc) ∧
    w.cell? ⟨(ad.add (i.toNat * 6)).block, (ad.add (i.toNat * 6)).off + 3, none⟩ = some (.slice A3 (rdN xs i).args.length c3) ∧ w.cell? ⟨(ad.add (i.toNat * 6)).block, (ad.add (i.toNat * 6)).off + 4, none⟩ = some (.int .i64 (rdN xs i).callee) ∧
    w.cell? ⟨(ad.add (i.toNat * 6)).block, (ad.add (i.toNat * 6)).off + 5, none⟩ = some (.bool (rdN xs i).ask) ∧ (rdN xs i).args.length ≤ c3 ∧ k48.C w A3 (rdN xs i).args.length (rdN xs i).args := by
  obtain ⟨ad, c, e, _, hK, hc0⟩ := Kd.C_get h zNt i h0 h1
  have hc : ∀ j u, c[j]? = some u → w.cell? (ad.add (i.toNat * 6 + j)) = some u := hc0
  obtain ⟨A3, c3, rfl, l3, g3⟩ := kNt_open hK
  exact ⟨ad, A3, c3, e, by have hq := hc 0 _ rfl; rwa [Nat.add_zero] at hq, by have hq := hc 1 _ rfl; rwa [add_field _ _ _ (by decide)] at hq, by have hq := hc 2 _ rfl; rwa [add_field _ _ _ (by decide)] at hq, by have hq := hc 3 _ rfl; rwa [add_field _ _ _ (by decide)] at hq,
    by have hq := hc 4 _ rfl; rwa [add_field _ _ _ (by decide)] at hq, by have hq := hc 5 _ rfl; rwa [add_field _ _ _ (by decide)] at hq, l3, g3⟩

/-! ### Spots that are counts -/
def Q (s : S51) : Prop := (0 ≤ s.f0 ∧ s.f0 ≤ 9223372036854775807) ∧ U16 s.f1 ∧ U16 s.f2
theorem Q_z : Q z51 := by
  unfold Q U16
  decide
theorem Q_sp {x y : S51} (hx : Q x) (hy : Q y) : Q (spM x y) := by
  obtain ⟨⟨h1, h2⟩, _, _⟩ := hx
  obtain ⟨⟨h5, h6⟩, _, _⟩ := hy
  refine ⟨?_, or_u16 _ _, or_u16 _ _⟩
  show 0 ≤ adS x.f0 y.f0 ∧ adS x.f0 y.f0 ≤ 9223372036854775807
  unfold adS
  split
  · omega
  · split <;> omega
theorem sp_comm {x y : S51} (hx : Q x) (hy : Q y) : spM x y = spM y x := by
  unfold spM
  rw [adS_comm, or_comm16 hx.2.1 hy.2.1, or_comm16 hx.2.2 hy.2.2, clM_comm]
theorem sp_assoc {x y z : S51} (hx : Q x) (hy : Q y) (hz : Q z) : spM (spM x y) z = spM x (spM y z) := by
  unfold spM
  simp only
  rw [adS_assoc hx.1.1 hy.1.1 hz.1.1, or_assoc16 hx.2.1 hy.2.1 hz.2.1, or_assoc16 hx.2.2 hy.2.2 hz.2.2, clM_assoc]
theorem sp_zero {x : S51} (hx : Q x) : spM x z51 = x := by
  show (⟨adS x.f0 0, Go.bits .or .u16 x.f1 0, Go.bits .or .u16 x.f2 0, clM x.f3 0⟩ : S51) = x
  rw [adS_zero ⟨by have := hx.1.1; omega, hx.1.2⟩, or_zero16 hx.2.1, or_zero16 hx.2.2, clM_zero]
theorem zero_sp {x : S51} (hx : Q x) : spM z51 x = x := by rw [sp_comm Q_z hx, sp_zero hx]
theorem bit_u16 (l : List S48) (b : Nat) : U16 (bitP l b) := by
  unfold bitP
  split
  · decide
  · split
    · rename_i h
      generalize (rd_T48 l ((l.length - b : Nat) : Int)).f0 = z at h ⊢
      obtain ⟨h1, h2⟩ := h
      have : z = 0 ∨ z = 1 ∨ z = 2 ∨ z = 3 ∨ z = 4 ∨ z = 5 ∨ z = 6 ∨ z = 7 ∨ z = 8 ∨ z = 9 := by omega
      rcases this with rfl | rfl | rfl | rfl | rfl | rfl | rfl | rfl | rfl | rfl <;> decide
    · decide
/-- What one note lays to a spot. -/
def uN (n : Nt) : S51 := ⟨1, bitP n.args 1, bitP n.args 2, n.callee⟩
theorem Q_u (n : Nt) : Q (uN n) := ⟨by show (0 : Int) ≤ 1 ∧ (1 : Int) ≤ 9223372036854775807; decide, bit_u16 _ _, bit_u16 _ _⟩
theorem spN_eq {s : S51} (hs : Q s) (n : Nt) : spN s n.args n.callee = spM s (uN n) := by
  have h : cnP s.f0 = adS s.f0 1 := by
    have h1 := hs.1.1
    have h2 := hs.1.2
    unfold cnP adS
    repeat' split
    all_goals omega
  show (⟨cnP s.f0, _, _, clP s.f3 n.callee⟩ : S51) = _
  rw [h]
  rfl
/-- Rows of counts. -/
def QP (F : List (List S51)) : Prop := ∀ i j, Q (gt F i j)
/-- Rows of the same lengths. -/
def Shape (F0 F : List (List S51)) : Prop := F.length = F0.length ∧ ∀ i, (rw_ F i).length = (rw_ F0 i).length
theorem Shape.refl (F : List (List S51)) : Shape F F := ⟨rfl, fun _ => rfl⟩
theorem Shape.inr {F0 F : List (List S51)} (h : Shape F0 F) {i j : Nat} (hi : InR F0 i j) : InR F i j := ⟨by rw [h.1]; exact hi.1, by rw [h.2]; exact hi.2⟩
/-- A note, as rows see it. -/
def nt (F : List (List S51)) (n : Nt) : List (List S51) := noteF F n.fn n.pc n.args n.callee
def here (n : Nt) (i j : Nat) : Prop := n.fn = (i : Int) ∧ n.pc = (j : Int)
instance (n : Nt) (i j : Nat) : Decidable (here n i j) := by unfold here; exact inferInstance
theorem not_in {F : List (List S51)} {i j : Nat} (h : ¬ InR F i j) : gt F i j = z51 := by
  by_cases hi : i < F.length
  · exact gt_out (Nat.le_of_not_lt fun hj => h ⟨hi, hj⟩)
  · exact gt_out (by rw [rw_none (by omega)]; exact Nat.zero_le _)
theorem nt_shape {F0 F : List (List S51)} (h : Shape F0 F) (n : Nt) : Shape F0 (nt F n) := by
  unfold nt noteF
  split
  · rename_i hc
    have hi : InR F n.fn.toNat n.pc.toNat := ⟨by omega, by omega⟩
    refine ⟨by rw [len_st]; exact h.1, fun i => ?_⟩
    rw [rw_st hi.1]
    split
    · rename_i e
      subst e
      rw [List.length_set]
      exact h.2 _
    · exact h.2 i
  · exact h
theorem gt_nt {F : List (List S51)} (hQ : QP F) (n : Nt) {i j : Nat} (hi : InR F i j) : gt (nt F n) i j = if here n i j then spM (gt F i j) (uN n) else gt F i j := by
  unfold nt noteF
  by_cases hc : 0 ≤ n.fn ∧ n.fn < F.length ∧ 0 ≤ n.pc ∧ n.pc < (rw_ F n.fn.toNat).length
  · rw [if_pos hc, gt_st ⟨by omega, by omega⟩, spN_eq (hQ _ _)]
    by_cases e : here n i j
    · have e0 : n.fn = (i : Int) ∧ n.pc = (j : Int) := e
      have e1 : n.fn.toNat = i := by omega
      have e2 : n.pc.toNat = j := by omega
      rw [if_pos e, if_pos ⟨e1.symm, e2.symm⟩, e1, e2]
    · have e0 : ¬ (n.fn = (i : Int) ∧ n.pc = (j : Int)) := e
      rw [if_neg e, if_neg (by omega)]
  · rw [if_neg hc, if_neg ?_]
    intro e
    have e0 : n.fn = (i : Int) ∧ n.pc = (j : Int) := e
    obtain ⟨e1, e2⟩ := e0
    apply hc
    have h1 := hi.1
    have h2 := hi.2
    have e3 : n.fn.toNat = i := by omega
    rw [e3]
    omega
theorem nt_Q {F : List (List S51)} (hQ : QP F) (n : Nt) : QP (nt F n) := by
  intro i j
  by_cases hi : InR F i j
  · rw [gt_nt hQ n hi]
    split
    · exact Q_sp (hQ i j) (Q_u n)
    · exact hQ i j
  · have h2 : ¬ InR (nt F n) i j := fun h => hi (by
      have hs := nt_shape (Shape.refl F) n
      exact ⟨by have := h.1; rw [hs.1] at this; exact this, by have := h.2; rw [hs.2] at this; exact this⟩)
    rw [not_in h2]
    exact Q_z
/-- What a row of notes lays to a spot. -/
def D : List Nt → Nat → Nat → S51
  | [], _, _ => z51
  | n :: ns, i, j => if here n i j then spM (uN n) (D ns i j) else D ns i j
theorem D_Q (ns : List Nt) (i j : Nat) : Q (D ns i j) := by
  induction ns with
  | nil => exact Q_z
  | cons n ns ih =>
    unfold D
    split
    · exact Q_sp (Q_u n) ih
    · exact ih
theorem D_snoc (ns : List Nt) (n : Nt) (i j : Nat) : D (ns ++ [n]) i j = if here n i j then spM (D ns i j) (uN n) else D ns i j := by
  induction ns with
  | nil =>
    show (if here n i j then spM (uN n) z51 else z51) = if here n i j then spM z51 (uN n) else z51
    rw [sp_zero (Q_u n), zero_sp (Q_u n)]
  | cons m ns ih =>
    show (if here m i j then spM (uN m) (D (ns ++ [n]) i j) else D (ns ++ [n]) i j) = if here n i j then spM (if here m i j then spM (uN m) (D ns i j) else D ns i j) (uN n) else (if here m i j then spM (uN m) (D ns i j) else D ns i j)
    rw [ih]
    by_cases h1 : here n i j
    · rw [if_pos h1, if_pos h1]
      by_cases h2 : here m i j
      · rw [if_pos h2, if_pos h2, sp_assoc (Q_u m) (D_Q ns i j) (Q_u n)]
      · rw [if_neg h2, if_neg h2]
    · rw [if_neg h1, if_neg h1]
/-- How many notes there were of it. -/
def cnt : List Nt → Nat → Nat → Nat
  | [], _, _ => 0
  | n :: ns, i, j => if here n i j then cnt ns i j + 1 else cnt ns i j
theorem cnt_le (ns : List Nt) (i j : Nat) : cnt ns i j ≤ ns.length := by
  induction ns with
  | nil => exact Nat.le_refl _
  | cons n ns ih =>
    unfold cnt
    rw [List.length_cons]
    split <;> omega
theorem cnt_snoc (ns : List Nt) (n : Nt) (i j : Nat) : cnt (ns ++ [n]) i j = if here n i j then cnt ns i j + 1 else cnt ns i j := by
  induction ns with
  | nil => rfl
  | cons m ns ih =>
    show (if here m i j then cnt (ns ++ [n]) i j + 1 else cnt (ns ++ [n]) i j) = if here n i j then (if here m i j then cnt ns i j + 1 else cnt ns i j) + 1 else (if here m i j then cnt ns i j + 1 else cnt ns i j)
    rw [ih]
    repeat' split
    all_goals omega
theorem D_cnt (ns : List Nt) (h : ns.length ≤ 1048576) (i j : Nat) : (D ns i j).f0 = (cnt ns i j : Int) := by
  induction ns with
  | nil => rfl
  | cons n ns ih =>
    have h1 := ih (by rw [List.length_cons] at h; omega)
    have h2 := cnt_le ns i j
    rw [List.length_cons] at h
    unfold D cnt
    by_cases hh : here n i j
    · rw [if_pos hh, if_pos hh]
      show adS 1 (D ns i j).f0 = _
      rw [h1]
      unfold adS
      repeat' split
      all_goals omega
    · rw [if_neg hh, if_neg hh]
      exact h1
/-- One book, behind these notes. -/
structure InvA (F0 F : List (List S51)) (ns : List Nt) : Prop where
  shape : Shape F0 F
  q : QP F
  sum : ∀ i j, InR F0 i j → gt F i j = spM (gt F0 i j) (D ns i j)
theorem InvA.start {F0 : List (List S51)} (h : QP F0) : InvA F0 F0 [] := ⟨Shape.refl _, h, fun i j _ => (sp_zero (h i j)).symm⟩
theorem InvA.note {F0 F : List (List S51)} {ns : List Nt} (h0 : QP F0) (h : InvA F0 F ns) (n : Nt) : InvA F0 (nt F n) (ns ++ [n]) := by
  refine ⟨nt_shape h.shape n, nt_Q h.q n, fun i j hi => ?_⟩
  rw [gt_nt h.q n (h.shape.inr hi), D_snoc, h.sum i j hi]
  split
  · rw [sp_assoc (h0 i j) (D_Q ns i j) (Q_u n)]
  · rfl
/-- Two books, behind these notes between them. -/
structure InvB (F0 F G : List (List S51)) (ns : List Nt) : Prop where
  sf : Shape F0 F
  sg : Shape F0 G
  qf : QP F
  qg : QP G
  sum : ∀ i j, InR F0 i j → spM (gt F i j) (gt G i j) = spM (gt F0 i j) (D ns i j)
theorem InvB.noteF {F0 F G : List (List S51)} {ns : List Nt} (h0 : QP F0) (h : InvB F0 F G ns) (n : Nt) : InvB F0 (nt F n) G (n :: ns) := by
  refine ⟨nt_shape h.sf n, h.sg, nt_Q h.qf n, h.qg, fun i j hi => ?_⟩
  have hs := h.sum i j hi
  rw [gt_nt h.qf n (h.sf.inr hi)]
  show _ = spM (gt F0 i j) (if here n i j then spM (uN n) (D ns i j) else D ns i j)
  have q1 := h.qf i j
  have q2 := h.qg i j
  have q3 := h0 i j
  have q4 := D_Q ns i j
  have q5 := Q_u n
  split
  · rw [sp_comm q1 q5, sp_assoc q5 q1 q2, hs, ← sp_assoc q5 q3 q4, sp_comm q5 q3, sp_assoc q3 q5 q4]
  · exact hs
theorem InvB.noteG {F0 F G : List (List S51)} {ns : List Nt} (h0 : QP F0) (h : InvB F0 F G ns) (n : Nt) : InvB F0 F (nt G n) (n :: ns) := by
  refine ⟨h.sf, nt_shape h.sg n, h.qf, nt_Q h.qg n, fun i j hi => ?_⟩
  have hs := h.sum i j hi
  rw [gt_nt h.qg n (h.sg.inr hi)]
  show _ = spM (gt F0 i j) (if here n i j then spM (uN n) (D ns i j) else D ns i j)
  have q1 := h.qf i j
  have q2 := h.qg i j
  have q3 := h0 i j
  have q4 := D_Q ns i j
  have q5 := Q_u n
  split
  · rw [← sp_assoc q1 q2 q5, hs, sp_assoc q3 q4 q5, sp_comm q4 q5]
  · exact hs
theorem met {F0 Fa F G : List (List S51)} {ns : List Nt} (ha : InvA F0 Fa ns) (hb : InvB F0 F G ns) : mergeF F G = Fa := by
  refine rows_ext (by rw [merge_len, hb.sf.1, hb.sg.1, ha.shape.1, Nat.max_self]) (fun i _ => by rw [row_len, ha.shape.2]; unfold rlen; rw [hb.sf.2, hb.sg.2, Nat.max_self]) (fun i j hi => ?_)
  have h1 : InR F0 i j := ⟨by have := hi.1; rwa [merge_len, hb.sf.1, hb.sg.1, Nat.max_self] at this, by have := hi.2; rw [row_len] at this; unfold rlen at this; rwa [hb.sf.2, hb.sg.2, Nat.max_self] at this⟩
  rw [gt_merge, hb.sum i j h1, ha.sum i j h1]
theorem met2 {F0 Fa F G : List (List S51)} {ns : List Nt} (ha : InvA F0 Fa ns) (hb : InvB F0 F G ns) : mergeF G F = Fa := by
  rw [← met ha hb]
  refine rows_ext (by rw [merge_len, merge_len, Nat.max_comm]) (fun i _ => by rw [row_len, row_len]; unfold rlen; rw [Nat.max_comm]) (fun i j _ => ?_)
  rw [gt_merge, gt_merge]
  exact sp_comm (hb.qg i j) (hb.qf i j)
/-! ### New books -/
theorem gt_new (fs : List S76) (l : List (List S51)) {i j : Nat} (hi : InR (newF fs l fs.length) i j) : gt (newF fs l fs.length) i j = gt l i j := by
  obtain ⟨h1, h2⟩ := hi
  rw [newF_len] at h1
  have e : rw_ (newF fs l fs.length) i = (List.range (cl fs i)).map (gt l i) := by simp [rw_, newF, List.getD_eq_getElem?_getD, h1]
  rw [e, List.length_map, List.length_range] at h2
  show (rw_ (newF fs l fs.length) i).getD j z51 = gt l i j
  rw [e]
  simp [List.getD_eq_getElem?_getD, h2]
theorem new_Q (fs : List S76) {l : List (List S51)} (h : QP l) : QP (newF fs l fs.length) := by
  intro i j
  by_cases hi : InR (newF fs l fs.length) i j
  · rw [gt_new fs l hi]
    exact h i j
  · rw [not_in hi]
    exact Q_z
theorem new_row (fs : List S76) (l : List (List S51)) (i : Nat) (hi : i < fs.length) : (rw_ (newF fs l fs.length) i).length = cl fs i := by
  simp [rw_, newF, List.getD_eq_getElem?_getD, hi]
theorem new_shape (fs : List S76) (l l2 : List (List S51)) : Shape (newF fs l fs.length) (newF fs l2 fs.length) := by
  refine ⟨by rw [newF_len, newF_len], fun i => ?_⟩
  by_cases hi : i < fs.length
  · rw [new_row fs l2 i hi, new_row fs l i hi]
  · rw [rw_none (by rw [newF_len]; omega), rw_none (by rw [newF_len]; omega)]
theorem Q_nil : QP [] := fun i j => by rw [not_in (fun h => absurd h.1 (Nat.not_lt_zero _))]; exact Q_z
theorem InvB.start (fs : List S76) {l : List (List S51)} (h : QP l) : InvB (newF fs l fs.length) (newF fs l fs.length) (newF fs [] fs.length) [] := by
  refine ⟨Shape.refl _, new_shape fs l [], new_Q fs h, new_Q fs Q_nil, fun i j hi => ?_⟩
  rw [gt_new fs [] ((new_shape fs l []).inr hi), not_in (F := []) (fun h => absurd h.1 (Nat.not_lt_zero _))]
  rfl
/-- Of a book over nothing: a spot's count is how many notes there were of it. -/
theorem counted_new (fs : List S76) {F : List (List S51)} {ns : List Nt} (h : InvA (newF fs [] fs.length) F ns) (hl : ns.length ≤ 1048576) {i j : Nat} (hi : InR (newF fs [] fs.length) i j) : (gt F i j).f0 = (cnt ns i j : Int) := by
  rw [h.sum i j hi, gt_new fs [] hi, not_in (F := []) (fun h => absurd h.1 (Nat.not_lt_zero _)), zero_sp (D_Q ns i j), D_cnt ns hl]
theorem QP_of {l : List (List S51)} (h : RgP l) (hc : Cn l) : QP l := fun i j => ⟨⟨hc i j, (gt_Rg h i j).1.2⟩, (gt_Rg h i j).2.1, (gt_Rg h i j).2.2.1⟩
theorem mem_gt {F : List (List S51)} {x : List S51} (hx : x ∈ F) {s : S51} (hs : s ∈ x) : ∃ i j, gt F i j = s := by
  obtain ⟨i, hi, rfl⟩ := List.getElem_of_mem hx
  obtain ⟨j, hj, rfl⟩ := List.getElem_of_mem hs
  refine ⟨i, j, ?_⟩
  simp [gt, rw_, List.getD_eq_getElem?_getD, hi, hj]
theorem QP.i64 {F : List (List S51)} (h : QP F) : ∀ x ∈ F, ∀ s ∈ x, I64 s.f0 := fun x hx s hs => by
  obtain ⟨i, j, rfl⟩ := mem_gt hx hs
  have := (h i j).1
  exact ⟨by omega, by omega⟩
theorem QP.rg {F : List (List S51)} (h : QP F) : ∀ i j, -9223372036854775808 ≤ (gt F i j).f0 ∧ (gt F i j).f0 ≤ 9223372036854775807 := fun i j => by
  have := (h i j).1
  exact ⟨by omega, by omega⟩
theorem take_snoc (ns : List Nt) {k : Nat} (h : k < ns.length) : ns.take (k + 1) = ns.take k ++ [rdN ns (k : Int)] := by
  rw [List.take_add_one]
  congr 1
  simp [rdN, List.getD_eq_getElem?_getD, h]
theorem drop_cons (ns : List Nt) {k : Nat} (h : k < ns.length) : ns.drop k = rdN ns (k : Int) :: ns.drop (k + 1) := by
  rw [List.drop_eq_getElem_cons h]
  congr 1
  simp [rdN, List.getD_eq_getElem?_getD, h]
end Go.Proofs.YtjeaojolhdfpeaaGreat.CutP
