/- The reference's copies and its Idle, in plain words. -/
import Derived.Test.YtklknkfoafdgpaaLiveFind
import Derived.Test.YtklknkfoafdgpaaPLiveKnownx0
import Derived.Test.YtklknkfoafdgpaaPLiveKnownx16
namespace Go.Proofs.Ytklknkfoafdgpaa.LiveRefP
open Go.RowKit Go.Proofs.YtklknkfoafdgpaaW.PrintWords Go.Proofs.YtklknkfoafdgpaaW.PrintLast Go.Proofs.YtklknkfoafdgpaaW.PrintMore
open Go.Proofs.Ytklknkfoafdgpaa.PLiveKnown Go.Proofs.Ytklknkfoafdgpaa.LiveT Go.Proofs.Ytklknkfoafdgpaa.LiveB Go.Proofs.Ytklknkfoafdgpaa.LiveInv Go.Proofs.Ytklknkfoafdgpaa.LiveSet Go.Proofs.Ytklknkfoafdgpaa.LiveEnd Go.Proofs.Ytklknkfoafdgpaa.LiveAhead Go.Proofs.Ytklknkfoafdgpaa.LiveSettled Go.Proofs.Ytklknkfoafdgpaa.LiveCopied Go.Proofs.Ytklknkfoafdgpaa.LiveRunP Go.Proofs.Ytklknkfoafdgpaa.LiveSame Go.Proofs.Ytklknkfoafdgpaa.LiveFit Go.Proofs.Ytklknkfoafdgpaa.LiveAft Go.Proofs.Ytklknkfoafdgpaa.LiveAsked Go.Proofs.Ytklknkfoafdgpaa.LiveNoth Go.Proofs.Ytklknkfoafdgpaa.LiveFindP Go.Proofs.Ytklknkfoafdgpaa.LiveFindQ Go.Proofs.Ytklknkfoafdgpaa.LiveFind
set_option linter.unusedVariables false
set_option linter.unusedSimpArgs false

/-- A loop that goes through a list and copies it. -/
theorem loop_copy {α β : Type} (l : List α) (g : Nat → List α → Int → Option β) (r : β) (hstop : Ev (fun k => g k l (l.length : Int)) r)
    (hstep : ∀ i (h : i < l.length), Ev (fun k => g k (l.take i ++ [l[i]]) ((i + 1 : Nat) : Int)) r → Ev (fun k => g k (l.take i) (i : Int)) r) : Ev (fun k => g k [] 0) r := by
  have key : ∀ d i, l.length - i = d → i ≤ l.length → Ev (fun k => g k (l.take i) (i : Int)) r := by
    intro d
    induction d with
    | zero =>
      intro i hd hi
      obtain rfl : i = l.length := by omega
      rw [List.take_length]
      exact hstop
    | succ d ih =>
      intro i hd hi
      have h1 : i < l.length := by omega
      refine hstep i h1 ?_
      have h2 := ih (i + 1) (by omega) (by omega)
      rw [List.take_add_one, List.getElem?_eq_getElem h1] at h2
      exact h2
  exact key _ 0 rfl (Nat.zero_le _)
theorem rd11_fl3 (n : Nat) (L : Nat → Nat) (f : Nat → Nat → RS) (b i : Nat) (hb : b < n) (hi : i < L b) : (rd_L11 (fl3 n L f) (b : Int)).length = L b ∧ rd_L10 (rd_L11 (fl3 n L f) (b : Int)) (i : Int) = maskL (f b i) := by
  have h1 : rd_L11 (fl3 n L f) (b : Int) = (List.range (L b)).map fun i => maskL (f b i) := by
    simp [rd_L11, fl3, List.getD_eq_getElem?_getD, hb]
  rw [h1]
  refine ⟨by simp, ?_⟩
  simp [rd_L10, List.getD_eq_getElem?_getD, hi]
theorem idle_calls {W : World} {base : Nat} {bs : List S43} {A : Option Addr} {c : Nat} {vs : Nat → Value} {H : Nat → Nat → Nat} {f : Nat → Nat → RS} (fn rg : Int) (Ab : Option Addr) (cb : Nat) (hC : Kd.C k43 W Ab bs.length bs) (hcb : bs.length ≤ cb) (h : W3 W base bs.length (.slice A bs.length c) (rowsOf bs) vs H f) (b i : Nat) (hb : b < bs.length) (hi : i < (insOf bs b).length) (hr : Regs (f b (i + 1))) :
    Calls Try.prog 34 #[.agg #[.int .i64 fn, .int .i64 rg, .slice Ab bs.length cb], .slice A bs.length c, .int .i64 b, .int .i64 i] W fun e w' => e = .returned (.bool (idle (iOf (rd_T47 (insOf bs b) i)) (f b (i + 1)))) ∧ Below W.heap.size W w' := by
  obtain ⟨A', c', hv, hc, hC3⟩ := W3.C h
  injection hv with h1 h2 h3
  subst h1; subst h3
  have hl := fl3_length bs.length (rowsOf bs) f
  have hm : (insOf bs b).length ≤ 9223372036854775807 := by
    obtain ⟨ad, A1, c1, A2, c2, e, hx0, hx1, hx2, l1, hg1, l2, hg2⟩ := rd_block hC (Below.refl _ W) b hb
    exact Kd.C_max hg1
  have hw : wrap64 ((i : Int) + 1) = ((i + 1 : Nat) : Int) := wrap_nat i _ hi hm
  obtain ⟨e1, e2⟩ := rd11_fl3 bs.length (rowsOf bs) f b (i + 1) hb (by unfold rowsOf; unfold insOf at hi; omega)
  have hrow : rowsOf bs b = (insOf bs b).length + 1 := rfl
  have hk : portageref24_Idle.f fn rg bs (fl3 bs.length (rowsOf bs) f) (b : Int) (i : Int) = some (idle (iOf (rd_T47 (insOf bs b) i)) (f b (i + 1))) := by
    unfold portageref24_Idle.f
    have hI : (rd_T43 bs (b : Int)).f1 = insOf bs b := rfl
    rw [hI, if_pos (by omega), if_pos (by omega), if_pos (by omega), if_pos (by omega)]
    rw [quiet_eq, Option.bind_some]
    cases hq : q47 (rd_T47 (insOf bs b) (i : Int)) with
    | false =>
      rw [if_neg (by decide)]
      simp only [idle, iOf, hq, Bool.false_and]
    | true =>
      rw [if_pos rfl, if_pos (by rw [hl]; omega), hw, if_pos (by omega), if_pos (by rw [e1, hrow]; omega), e2, in_eq _ hr, Option.bind_some]
      simp only [idle, iOf, hq, Bool.true_and]
  have h2 := portageref24_Idle.calls fn rg Ab cb bs A c (fl3 bs.length (rowsOf bs) f) b i _ W hC hcb (by rw [hl]; exact hC3) (by rw [hl]; exact hc) hk
  rw [hl] at h2
  exact h2
end Go.Proofs.Ytklknkfoafdgpaa.LiveRefP
