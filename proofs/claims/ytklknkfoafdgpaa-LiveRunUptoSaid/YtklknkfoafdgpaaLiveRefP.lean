/- The reference's copies and its Idle, in plain words. -/
import Derived.Test.YtklknkfoafdgpaaLiveFind
import Derived.Test.YtklknkfoafdgpaaPLiveKnownx15
import Derived.Test.YtklknkfoafdgpaaPLiveKnownx16
namespace Go.Proofs.Ytklknkfoafdgpaa.LiveRefP
open Go.RowKit Go.Proofs.YtklknkfoafdgpaaW.PrintWords Go.Proofs.YtklknkfoafdgpaaW.PrintLast Go.Proofs.YtklknkfoafdgpaaW.PrintMore
open Go.Proofs.Ytklknkfoafdgpaa.PLiveKnown Go.Proofs.Ytklknkfoafdgpaa.LiveT Go.Proofs.Ytklknkfoafdgpaa.LiveB Go.Proofs.Ytklknkfoafdgpaa.LiveInv Go.Proofs.Ytklknkfoafdgpaa.LiveSet Go.Proofs.Ytklknkfoafdgpaa.LiveEnd Go.Proofs.Ytklknkfoafdgpaa.LiveAhead Go.Proofs.Ytklknkfoafdgpaa.LiveSettled Go.Proofs.Ytklknkfoafdgpaa.LiveCopied Go.Proofs.Ytklknkfoafdgpaa.LiveRunP Go.Proofs.Ytklknkfoafdgpaa.LiveSame Go.Proofs.Ytklknkfoafdgpaa.LiveFit Go.Proofs.Ytklknkfoafdgpaa.LiveAft Go.Proofs.Ytklknkfoafdgpaa.LiveAsked Go.Proofs.Ytklknkfoafdgpaa.LiveNoth Go.Proofs.Ytklknkfoafdgpaa.LiveFindP Go.Proofs.Ytklknkfoafdgpaa.LiveFindQ Go.Proofs.Ytklknkfoafdgpaa.LiveFind
set_option linter.unusedVariables false
set_option linter.unusedSimpArgs false

/-- A loop that goes through a list and copies it. -/
theorem loop_copy {α β : Type} (l : List α) (g : Nat → List α → Int → Option β) (r : β) (hstop : Ev (fun k => g k l (l.length : Int)) r)
    (hstep : ∀ i (h : i < l.length), Ev (fun k => g k (l.take i ++ [l[i]]) ((i + 1 : Nat) : Int)) r → Ev (fun k => g k (l.take i) (i : Int)) r) : Ev (fun k => g k [] 0) r := by
  have key : ∀ d i, l.length - i = d → i ≤ l.length → Ev (fun k => g k (l.take i) (i : Int)) r := by
    intro d
    induction d with
    | zero =>
      intro i hd hi
      obtain rfl : i = l.length := by omega
      rw [List.take_length]
      exact hstop
    | succ d ih =>
      intro i hd hi
      have h1 : i < l.length := by omega
      refine hstep i h1 ?_
      have h2 := ih (i + 1) (by omega) (by omega)
      rw [List.take_add_one, List.getElem?_eq_getElem h1] at h2
      exact h2
  exact key _ 0 rfl (Nat.zero_le _)
theorem copyOpnds_ev (l : List S82) (hl : l.length * 16 ≤ 140737488355328) : Ev (fun k => portageref0_CopyOpnds.f k l) l := by
  unfold portageref0_CopyOpnds.f
  refine loop_copy l (fun k acc i => portageref0_CopyOpnds.l0 k l acc i) l (Ev.step (fun k => by simp only [portageref0_CopyOpnds.l0]; rw [if_neg (by omega)]) (Ev.now _)) (fun i h hr => Ev.step (fun k => ?_) hr)
  simp only [portageref0_CopyOpnds.l0]
  rw [if_pos (by omega), if_pos (by omega), if_pos (by rw [List.length_take]; omega), rd82 l i h, wrap_nat i _ h (by omega)]
theorem copyInts_ev (l : List Int) (hl : l.length * 8 ≤ 140737488355328) : Ev (fun k => portageref0_CopyInts.f k l) l := by
  unfold portageref0_CopyInts.f
  refine loop_copy l (fun k acc i => portageref0_CopyInts.l0 k l acc i) l (Ev.step (fun k => by simp only [portageref0_CopyInts.l0]; rw [if_neg (by omega)]) (Ev.now _)) (fun i h hr => Ev.step (fun k => ?_) hr)
  simp only [portageref0_CopyInts.l0]
  rw [if_pos (by omega), if_pos (by omega), if_pos (by rw [List.length_take]; omega), rdI l i h, wrap_nat i _ h (by omega)]
theorem copyShapes_ev (l : List S78) (hl : l.length * 40 ≤ 140737488355328) (hs : ∀ k, k < l.length → (rd_T78 l k).f2.length * 16 ≤ 140737488355328) : Ev (fun k => portageref0_CopyShapes.f k l) l := by
  unfold portageref0_CopyShapes.f
  refine loop_copy l (fun k acc i => portageref0_CopyShapes.l0 k l acc i) l (Ev.step (fun k => by simp only [portageref0_CopyShapes.l0]; rw [if_neg (by omega)]) (Ev.now _)) (fun i h hr => ?_)
  have h3 := hs i h
  rw [rd78 l i h] at h3
  refine Ev.step (f := fun k => (portageref0_CopyOpnds.f k l[i].f2).bind fun t => portageref0_CopyShapes.l0 k l (l.take i ++ [(⟨l[i].f0, l[i].f1, t⟩ : S78)]) ((i + 1 : Nat) : Int)) (fun k => ?_) (Ev.bind (copyOpnds_ev _ h3) hr)
  simp only [portageref0_CopyShapes.l0]
  rw [if_pos (by omega), if_pos (by omega), rd78 l i h, wrap_nat i _ h (by omega)]
  congr 1
  funext t
  rw [if_pos (by rw [List.length_take]; omega)]
def tup47 (x : S47) : Int × Int × Int × (List (S82)) × Int × Int × Int × (List (S78)) := (x.f0, x.f1, x.f2, x.f3, x.f4, x.f5, x.f6, x.f7)
theorem copyIns_ev (x : S47) (hx : Fit47 x) : Ev (fun k => portageref0_CopyIns.f k x.f0 x.f1 x.f2 x.f3 x.f4 x.f5 x.f6 x.f7) (tup47 x) := by
  unfold portageref0_CopyIns.f
  exact Ev.bind (copyOpnds_ev _ hx.args) (Ev.bind (copyShapes_ev _ hx.exits hx.slots) (Ev.now _))
theorem copyRegs_ev (fn rg : Int) (bs : List S43) (hf : FitC bs) : Ev (fun k => portageref0_CopyRegs.f k fn rg bs) (fn, rg, bs) := by
  have hbl := hf.blocks
  unfold portageref0_CopyRegs.f
  refine loop_copy bs (fun k acc i => portageref0_CopyRegs.l0 k i fn rg bs fn rg acc) (fn, rg, bs) (Ev.step (fun k => by simp only [portageref0_CopyRegs.l0]; rw [if_neg (by omega)]) (Ev.now _)) (fun b hb hr => ?_)
  have h1 := hf.ins b hb
  have h2 := hf.next b hb
  have h3 := hf.each b hb
  refine Ev.step (f := fun k => (portageref0_CopyInts.f k ((rd_T43 bs b).f2)).bind fun t => portageref0_CopyRegs.l1 k b 0 fn rg bs fn rg (bs.take b) (rd_T43 bs b).f0 [] t) (fun k => ?_) (Ev.bind (copyInts_ev _ h2) ?_)
  · simp only [portageref0_CopyRegs.l0]
    rw [if_pos (by omega), if_pos (by omega)]
  · have hbb : rd_T43 bs b = bs[b] := rd43 bs b hb
    have hbe : (⟨(rd_T43 bs b).f0, (rd_T43 bs b).f1, (rd_T43 bs b).f2⟩ : S43) = bs[b] := by rw [hbb]
    generalize hB : rd_T43 bs (b : Int) = B at *
    refine loop_copy B.f1 (fun k acc i => portageref0_CopyRegs.l1 k b i fn rg bs fn rg (bs.take b) B.f0 acc B.f2) (fn, rg, bs) ?_ (fun i hi hq => ?_)
    · refine Ev.step (fun k => ?_) hr
      simp only [portageref0_CopyRegs.l1]
      rw [if_pos (by omega), if_pos (by omega), hB, if_neg (by omega), if_pos (by rw [List.length_take]; omega), wrap_nat b _ hb (by omega), hbe]
    · have h4 := h3 i hi
      rw [rd47 _ i hi] at h4
      refine Ev.step (f := fun k => (portageref0_CopyIns.f k B.f1[i].f0 B.f1[i].f1 B.f1[i].f2 B.f1[i].f3 B.f1[i].f4 B.f1[i].f5 B.f1[i].f6 B.f1[i].f7).bind fun t => portageref0_CopyRegs.l1 k b ((i + 1 : Nat) : Int) fn rg bs fn rg (bs.take b) B.f0 (B.f1.take i ++ [(⟨t.1, t.2.1, t.2.2.1, t.2.2.2.1, t.2.2.2.2.1, t.2.2.2.2.2.1, t.2.2.2.2.2.2.1, t.2.2.2.2.2.2.2⟩ : S47)]) B.f2) (fun k => ?_) (Ev.bind (copyIns_ev _ h4) hq)
      simp only [portageref0_CopyRegs.l1]
      rw [if_pos (by omega), if_pos (by omega), hB, if_pos (by omega), if_pos (by omega), rd47 _ i hi, wrap_nat i _ hi (by omega)]
      congr 1
      funext t
      rw [if_pos (by rw [List.length_take]; omega)]
theorem copyRegs_calls (fn rg : Int) (Ab : Option Addr) (cb : Nat) (bs : List S43) (w : World) (hC : Kd.C k43 w Ab bs.length bs) (hcb : bs.length ≤ cb) (hf : FitC bs) :
    Calls Try.prog 19 #[.agg #[.int .i64 fn, .int .i64 rg, .slice Ab bs.length cb]] w fun e w' => ∃ v, e = .returned (.agg #[.int .i64 fn, .int .i64 rg, v]) ∧ Kd.R k43 43 w' w.heap.size (fun _ => True) v bs ∧ Below w.heap.size w w' := by
  obtain ⟨k, hk⟩ := (copyRegs_ev fn rg bs hf).rounds
  exact portageref0_CopyRegs.calls k fn rg Ab cb bs fn rg bs w hC hcb hk
theorem copyIns_calls (x : S47) (A3 : Option Addr) (c3 : Nat) (A7 : Option Addr) (c7 : Nat) (w : World) (h : RIn w x A3 c3 A7 c7) (hf : Fit47 x) :
    Calls Try.prog 18 #[v47 x A3 c3 A7 c7] w fun e w' => ∃ v3 v7, e = .returned (.agg (row47 x v3 v7)) ∧ Kd.R k82 82 w' w.heap.size (fun _ => True) v3 x.f3 ∧ Kd.R k78 78 w' w.heap.size (fun k => some k ≠ v3.ownBlock) v7 x.f7 ∧ Below w.heap.size w w' := by
  obtain ⟨k, hk⟩ := (copyIns_ev x hf).rounds
  refine (portageref0_CopyIns.calls k x.f0 x.f1 x.f2 A3 c3 x.f3 x.f4 x.f5 x.f6 A7 c7 x.f7 x.f0 x.f1 x.f2 x.f3 x.f4 x.f5 x.f6 x.f7 w h.r3 h.l3 h.r7 h.l7 hk).mono ?_
  rintro e w' ⟨v3, v7, he, h3, h7, hb⟩
  exact ⟨v3, v7, he, h3, Kd.S_R h7, hb⟩
theorem rd11_fl3 (n : Nat) (L : Nat → Nat) (f : Nat → Nat → RS) (b i : Nat) (hb : b < n) (hi : i < L b) : (rd_L11 (fl3 n L f) (b : Int)).length = L b ∧ rd_L10 (rd_L11 (fl3 n L f) (b : Int)) (i : Int) = maskL (f b i) := by
  have h1 : rd_L11 (fl3 n L f) (b : Int) = (List.range (L b)).map fun i => maskL (f b i) := by
    simp [rd_L11, fl3, List.getD_eq_getElem?_getD, hb]
  rw [h1]
  refine ⟨by simp, ?_⟩
  simp [rd_L10, List.getD_eq_getElem?_getD, hi]
theorem idle_calls {W : World} {base : Nat} {bs : List S43} {A : Option Addr} {c : Nat} {vs : Nat → Value} {H : Nat → Nat → Nat} {f : Nat → Nat → RS} (fn rg : Int) (Ab : Option Addr) (cb : Nat) (hC : Kd.C k43 W Ab bs.length bs) (hcb : bs.length ≤ cb) (h : W3 W base bs.length (.slice A bs.length c) (rowsOf bs) vs H f) (b i : Nat) (hb : b < bs.length) (hi : i < (insOf bs b).length) (hr : Regs (f b (i + 1))) :
    Calls Try.prog 34 #[.agg #[.int .i64 fn, .int .i64 rg, .slice Ab bs.length cb], .slice A bs.length c, .int .i64 b, .int .i64 i] W fun e w' => e = .returned (.bool (idle (iOf (rd_T47 (insOf bs b) i)) (f b (i + 1)))) ∧ Below W.heap.size W w' := by
  obtain ⟨A', c', hv, hc, hC3⟩ := W3.C h
  injection hv with h1 h2 h3
  subst h1; subst h3
  have hl := fl3_length bs.length (rowsOf bs) f
  have hm : (insOf bs b).length ≤ 9223372036854775807 := by
    obtain ⟨ad, A1, c1, A2, c2, e, hx0, hx1, hx2, l1, hg1, l2, hg2⟩ := rd_block hC (Below.refl _ W) b hb
    exact Kd.C_max hg1
  have hw : wrap64 ((i : Int) + 1) = ((i + 1 : Nat) : Int) := wrap_nat i _ hi hm
  obtain ⟨e1, e2⟩ := rd11_fl3 bs.length (rowsOf bs) f b (i + 1) hb (by unfold rowsOf; unfold insOf at hi; omega)
  have hrow : rowsOf bs b = (insOf bs b).length + 1 := rfl
  have hk : portageref24_Idle.f fn rg bs (fl3 bs.length (rowsOf bs) f) (b : Int) (i : Int) = some (idle (iOf (rd_T47 (insOf bs b) i)) (f b (i + 1))) := by
    unfold portageref24_Idle.f
    have hI : (rd_T43 bs (b : Int)).f1 = insOf bs b := rfl
    rw [hI, if_pos (by omega), if_pos (by omega), if_pos (by omega), if_pos (by omega)]
    rw [quiet_eq, Option.bind_some]
    cases hq : q47 (rd_T47 (insOf bs b) (i : Int)) with
    | false =>
      rw [if_neg (by decide)]
      simp only [idle, iOf, hq, Bool.false_and]
    | true =>
      rw [if_pos rfl, if_pos (by rw [hl]; omega), hw, if_pos (by omega), if_pos (by rw [e1, hrow]; omega), e2, in_eq _ hr, Option.bind_some]
      simp only [idle, iOf, hq, Bool.true_and]
  have h2 := portageref24_Idle.calls fn rg Ab cb bs A c (fl3 bs.length (rowsOf bs) f) b i _ W hC hcb (by rw [hl]; exact hC3) (by rw [hl]; exact hc) hk
  rw [hl] at h2
  exact h2
end Go.Proofs.Ytklknkfoafdgpaa.LiveRefP
