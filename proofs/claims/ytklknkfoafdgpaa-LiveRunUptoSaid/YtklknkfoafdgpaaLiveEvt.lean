/- The comparisons of the reference, in plain words: they say whether two lists are the same. -/
/- What Run leaves fits where what it took fits; two comparisons as contracts. -/
/- Events of the walk: a block is made of values; a row of flags is made. -/
import Derived.Test.YtklknkfoafdgpaaLiveRunP
import Derived.Test.YtklknkfoafdgpaaPLiveKnownx0
import Derived.Test.YtklknkfoafdgpaaPLiveKnownx2
namespace Go.Proofs.Ytklknkfoafdgpaa.LiveSame
open Go.RowKit Go.Proofs.YtklknkfoafdgpaaW.PrintWords Go.Proofs.YtklknkfoafdgpaaW.PrintLast Go.Proofs.YtklknkfoafdgpaaW.PrintMore
open Go.Proofs.Ytklknkfoafdgpaa.PLiveKnown Go.Proofs.Ytklknkfoafdgpaa.LiveT Go.Proofs.Ytklknkfoafdgpaa.LiveSet Go.Proofs.Ytklknkfoafdgpaa.LiveAhead Go.Proofs.Ytklknkfoafdgpaa.LiveEnd Go.Proofs.Ytklknkfoafdgpaa.LiveSettled Go.Proofs.Ytklknkfoafdgpaa.LiveCopied Go.Proofs.Ytklknkfoafdgpaa.LiveRunP
set_option linter.unusedVariables false
set_option linter.unusedSimpArgs false

theorem wrap_nat (i n : Nat) (h : i < n) (hn : n ≤ 9223372036854775807) : wrap64 ((i : Int) + 1) = ((i + 1 : Nat) : Int) := by unfold wrap64; omega
/-- A loop that looks for the first difference. -/
theorem loop_eq {α : Type} (l m : List α) (hlen : l.length = m.length) (g : Nat → Int → Option Bool) (hstop : ∀ k, g (k + 1) (l.length : Int) = some true)
    (hstep : ∀ i (h1 : i < l.length) (h2 : i < m.length), (l[i] = m[i] → ∀ r, Ev (fun k => g k ((i + 1 : Nat) : Int)) r → Ev (fun k => g k (i : Int)) r) ∧ (l[i] ≠ m[i] → Ev (fun k => g k (i : Int)) false)) :
    ∃ t, Ev (fun k => g k ((0 : Nat) : Int)) t ∧ (t = true ↔ l = m) := by
  have key : ∀ d i, l.length - i = d → i ≤ l.length → ∃ t, Ev (fun k => g k (i : Int)) t ∧ (t = true ↔ l.drop i = m.drop i) := by
    intro d
    induction d with
    | zero =>
      intro i hd hi
      obtain rfl : i = l.length := by omega
      exact ⟨true, Ev.step (fun k => hstop k) (Ev.now true), by rw [List.drop_length, hlen, List.drop_length]; simp⟩
    | succ d ih =>
      intro i hd hi
      have h1 : i < l.length := by omega
      have h2 : i < m.length := by omega
      rw [List.drop_eq_getElem_cons h1, List.drop_eq_getElem_cons h2]
      by_cases he : l[i] = m[i]
      · obtain ⟨t, ht, hiff⟩ := ih (i + 1) (by omega) (by omega)
        exact ⟨t, (hstep i h1 h2).1 he t ht, by rw [hiff]; exact ⟨fun h => by rw [he, h], fun h => (List.cons.inj h).2⟩⟩
      · exact ⟨false, (hstep i h1 h2).2 he, ⟨fun h => absurd h (by decide), fun h => absurd (List.cons.inj h).1 he⟩⟩
  obtain ⟨t, ht, hiff⟩ := key _ 0 rfl (Nat.zero_le _)
  exact ⟨t, ht, by simpa using hiff⟩
theorem rd82 (l : List S82) (i : Nat) (h : i < l.length) : rd_T82 l (i : Int) = l[i] := by simp [rd_T82, List.getD_eq_getElem?_getD, h]
theorem rd78 (l : List S78) (i : Nat) (h : i < l.length) : rd_T78 l (i : Int) = l[i] := by simp [rd_T78, List.getD_eq_getElem?_getD, h]
theorem rd47 (l : List S47) (i : Nat) (h : i < l.length) : rd_T47 l (i : Int) = l[i] := by simp [rd_T47, List.getD_eq_getElem?_getD, h]
theorem rd43 (l : List S43) (i : Nat) (h : i < l.length) : rd_T43 l (i : Int) = l[i] := by simp [rd_T43, List.getD_eq_getElem?_getD, h]
theorem rdI (l : List Int) (i : Nat) (h : i < l.length) : rd l (i : Int) = l[i] := by simp [rd, List.getD_eq_getElem?_getD, h]
theorem s82_eq (a b : S82) : a = b ↔ a.f0 = b.f0 ∧ a.f1 = b.f1 := by
  cases a; cases b; simp
/-- Two lists of unlike length are unlike. -/
theorem other_len {α : Type} {l m : List α} (h : ¬ (l.length : Int) = (m.length : Int)) : l ≠ m := fun he => h (by rw [he])

theorem ints_ev (l m : List Int) (hl : l.length ≤ 9223372036854775807) : ∃ t, Ev (fun k => portageref0_SameInts.f k l m) t ∧ (t = true ↔ l = m) := by
  by_cases hlen : (l.length : Int) = (m.length : Int)
  · obtain ⟨t, ht, hiff⟩ := loop_eq l m (by omega) (fun k i => portageref0_SameInts.l0 k l m i) (fun k => by simp only [portageref0_SameInts.l0]; rw [if_neg (by omega)]) (fun i h1 h2 => by
      have hs : ∀ k, portageref0_SameInts.l0 (k + 1) l m (i : Int) = if l[i] = m[i] then portageref0_SameInts.l0 k l m ((i + 1 : Nat) : Int) else some false := fun k => by
        simp only [portageref0_SameInts.l0]
        rw [if_pos (by omega), if_pos (by omega), if_pos (by omega), rdI l i h1, rdI m i h2, wrap_nat i _ h1 hl]
      exact ⟨fun he r hr => Ev.step (fun k => by rw [hs, if_pos he]) hr, fun he => Ev.step (fun k => by rw [hs, if_neg he]) (Ev.now false)⟩)
    exact ⟨t, Ev.congr (fun k => by unfold portageref0_SameInts.f; rw [if_pos hlen]; rfl) ht, hiff⟩
  · exact ⟨false, Ev.congr (fun k => by unfold portageref0_SameInts.f; rw [if_neg hlen]) (Ev.now false), by simp [other_len hlen]⟩
theorem opnds_ev (l m : List S82) (hl : l.length ≤ 9223372036854775807) : ∃ t, Ev (fun k => portageref0_SameOpnds.f k l m) t ∧ (t = true ↔ l = m) := by
  by_cases hlen : (l.length : Int) = (m.length : Int)
  · obtain ⟨t, ht, hiff⟩ := loop_eq l m (by omega) (fun k i => portageref0_SameOpnds.l0 k l m i) (fun k => by simp only [portageref0_SameOpnds.l0]; rw [if_neg (by omega)]) (fun i h1 h2 => by
      have hs : ∀ k, portageref0_SameOpnds.l0 (k + 1) l m (i : Int) = if (!(l[i].f0 == m[i].f0) || (!(l[i].f1 == m[i].f1))) = true then some false else portageref0_SameOpnds.l0 k l m ((i + 1 : Nat) : Int) := fun k => by
        simp only [portageref0_SameOpnds.l0]
        rw [if_pos (by omega), if_pos (by omega), if_pos (by omega), rd82 l i h1, rd82 m i h2, wrap_nat i _ h1 hl]
      constructor
      · intro he r hr
        have e0 : l[i].f0 = m[i].f0 := by rw [he]
        have e1 : l[i].f1 = m[i].f1 := by rw [he]
        exact Ev.step (fun k => by rw [hs, if_neg (by simp [e0, e1])]) hr
      · intro he
        refine Ev.step (fun k => by rw [hs, if_pos (by
          rw [ne_eq, s82_eq] at he
          by_cases h0 : l[i].f0 = m[i].f0
          · have h3 : ¬ l[i].f1 = m[i].f1 := fun h3 => he ⟨h0, h3⟩
            simp [h0, h3]
          · simp [h0])]) (Ev.now false))
    exact ⟨t, Ev.congr (fun k => by unfold portageref0_SameOpnds.f; rw [if_pos hlen]; rfl) ht, hiff⟩
  · exact ⟨false, Ev.congr (fun k => by unfold portageref0_SameOpnds.f; rw [if_neg hlen]) (Ev.now false), by simp [other_len hlen]⟩
theorem ints_self (l : List Int) (hl : l.length ≤ 9223372036854775807) : Ev (fun k => portageref0_SameInts.f k l l) true := by
  obtain ⟨t, ht, hiff⟩ := ints_ev l l hl
  rw [hiff.mpr rfl] at ht
  exact ht
end Go.Proofs.Ytklknkfoafdgpaa.LiveSame

namespace Go.Proofs.Ytklknkfoafdgpaa.LiveFit
open Go.RowKit Go.Proofs.YtklknkfoafdgpaaW.PrintWords Go.Proofs.YtklknkfoafdgpaaW.PrintLast Go.Proofs.YtklknkfoafdgpaaW.PrintMore
open Go.Proofs.Ytklknkfoafdgpaa.PLiveKnown Go.Proofs.Ytklknkfoafdgpaa.LiveT Go.Proofs.Ytklknkfoafdgpaa.LiveAhead Go.Proofs.Ytklknkfoafdgpaa.LiveSettled Go.Proofs.Ytklknkfoafdgpaa.LiveCopied Go.Proofs.Ytklknkfoafdgpaa.LiveRunP Go.Proofs.Ytklknkfoafdgpaa.LiveSame
set_option linter.unusedVariables false
set_option linter.unusedSimpArgs false

theorem strip_length (l : List S47) (S : RS) : (strip iOf l S).length ≤ l.length := by
  induction l with
  | nil => exact Nat.le_refl _
  | cons x l ih =>
    simp only [strip]
    split
    · simp only [List.length_cons]; omega
    · simp only [List.length_cons]; omega
theorem strip_mem (l : List S47) (S : RS) (x : S47) (h : x ∈ strip iOf l S) : x ∈ l := by
  induction l with
  | nil => simp [strip] at h
  | cons y l ih =>
    simp only [strip] at h
    split at h
    · exact List.mem_cons_of_mem _ (ih h)
    · rcases List.mem_cons.mp h with h | h
      · rw [h]; exact List.mem_cons_self
      · exact List.mem_cons_of_mem _ (ih h)
theorem fit_mem {l : List S47} (h : ∀ i, i < l.length → Fit47 (rd_T47 l i)) (x : S47) (hx : x ∈ l) : Fit47 x := by
  obtain ⟨i, hi, rfl⟩ := List.getElem_of_mem hx
  have := h i hi
  rwa [rd47 l i hi] at this
theorem rd_run (bs : List S43) (V : Nat → RS) (b : Nat) (hb : b < bs.length) : rd_T43 (runBs bs V) b = runB bs.length V (rd_T43 bs b) := by
  rw [rd43 _ b (by rw [runBs_length]; exact hb), rd43 bs b hb]
  simp [runBs]
theorem fit_run {bs : List S43} (h : FitC bs) (V : Nat → RS) : FitC (runBs bs V) := by
  refine ⟨by rw [runBs_length]; exact h.blocks, fun b hb => ?_, fun b hb => ?_, fun b hb i hi => ?_⟩
  · rw [runBs_length] at hb
    rw [rd_run bs V b hb]
    have h1 := h.ins b hb
    have h2 : (runB bs.length V (rd_T43 bs b)).f1.length ≤ (rd_T43 bs b).f1.length := strip_length _ _
    omega
  · rw [runBs_length] at hb
    rw [rd_run bs V b hb]
    exact h.next b hb
  · rw [runBs_length] at hb
    rw [rd_run bs V b hb] at hi ⊢
    rw [rd47 _ i hi]
    exact fit_mem (h.each b hb) _ (strip_mem _ _ _ (List.getElem_mem _))
theorem ints_calls (l : List Int) (A A1 : Option Addr) (c c1 : Nat) (w : World) (h : Kd.C (Kd.int .i64) w A l.length l) (hc : l.length ≤ c) (h1 : Kd.C (Kd.int .i64) w A1 l.length l) (hc1 : l.length ≤ c1) :
    Calls Try.prog 12 #[.slice A l.length c, .slice A1 l.length c1] w fun e w' => e = .returned (.bool true) ∧ Below w.heap.size w w' := by
  obtain ⟨k, hk⟩ := (ints_self l (Kd.C_max h)).rounds
  exact (portageref0_SameInts.calls k A c l A1 c1 l true w h hc h1 hc1 hk).mono (fun e w' hh => ⟨hh.1, hh.2.below⟩)
end Go.Proofs.Ytklknkfoafdgpaa.LiveFit

namespace Go.Proofs.Ytklknkfoafdgpaa.LiveEvt
open Go.RowKit Go.Proofs.YtklknkfoafdgpaaW.PrintWords Go.Proofs.YtklknkfoafdgpaaW.PrintLast Go.Proofs.YtklknkfoafdgpaaW.PrintMore
open Go.Proofs.Ytklknkfoafdgpaa.PLiveKnown Go.Proofs.Ytklknkfoafdgpaa.LiveRunP
set_option linter.unusedVariables false
set_option linter.unusedSimpArgs false

theorem zero_event {ops : Array Oper} {rest : List Oper} {o : Oper} {a : Act} {Q : Exit → Act → World → Prop} {W : World} (t : Nat) (cs : Array Value) (hgd : o.guard = none) {N : Tmp} (_hd : o.dst = some N) (hrun : (execOp a.eval o).run Try.prog W = .ok (.value (.pointer (some ⟨W.heap.size, 0, none⟩))) (W.alloc (.cells cs t (0, 0))))
    (h : ∀ g w1, W.heap.size ≤ g → w1.heap[g]? = some (.cells cs t (0, 0)) → Below W.heap.size W w1 → wpList Try.prog ops Q rest (a.put o.dst (.pointer (some ⟨g, 0, none⟩))) w1) : wpList Try.prog ops Q (o :: rest) a W :=
  box_event hgd (N := N) _hd hrun (fun g hg w1 h1 h2 => h g w1 (Nat.le_of_eq hg.symm) h1 h2)

theorem made_event {ops : Array Oper} {rest : List Oper} {o : Oper} {a : Act} {Q : Exit → Act → World → Prop} {W : World} (n : Nat) (hgd : o.guard = none) {N : Tmp} (_hd : o.dst = some N) (hrun : (execOp a.eval o).run Try.prog W = .ok (.value (.slice (some ⟨W.heap.size, 0, none⟩) n n)) (W.alloc (.cells (madeB n) 4)))
    (h : ∀ g w1, W.heap.size ≤ g → KS w1 g n (fun _ => false) → Below W.heap.size W w1 → wpList Try.prog ops Q rest (a.put o.dst (.slice (some ⟨g, 0, none⟩) n n)) w1) : wpList Try.prog ops Q (o :: rest) a W :=
  Kd.event_run hgd hrun (h _ _ (Nat.le_refl _) (ks_made _ _ _ (blk_new W _)) (below_alloc (Below.refl _ _) _))

end Go.Proofs.Ytklknkfoafdgpaa.LiveEvt
