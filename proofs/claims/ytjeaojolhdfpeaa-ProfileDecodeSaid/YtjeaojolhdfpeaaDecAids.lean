/- SameProfile of a profile and itself: true. portagekit's Lent and Kept over bytes: 64 marks behind the bytes. Parts of ProfileDecode's law: what was decoded may be written over. -/
import Derived.Test.YtjeaojolhdfpeaaPProfileDecodex3
import Derived.Test.YtjeaojolhdfpeaaPProfileDecodex2
import Derived.Test.YtjeaojolhdfpeaaPProfileDecodex4
import Derived.Test.YtjeaojolhdfpeaaScribble
import Derived.Test.YtjeaojolhdfpeaaRefDecode
namespace Go.Proofs.Ytjeaojolhdfpeaa.SameD
open Go.RowKit Go.Proofs.YtjeaojolhdfpeaaW.PrintWords Go.Proofs.YtjeaojolhdfpeaaW.PrintLast Go.Proofs.YtjeaojolhdfpeaaW.PrintMore
open Go.Proofs.Ytjeaojolhdfpeaa.PProfileDecode
set_option linter.unusedVariables false
set_option linter.unusedSimpArgs false

/-! SameProfile of a profile and itself. -/
theorem wrap_nat (i n : Nat) (h : i < n) (hn : n ≤ 9223372036854775807) : wrap64 ((i : Int) + 1) = ((i + 1 : Nat) : Int) := by unfold wrap64; omega
theorem same_l1 (l : List (List S28)) (i : Nat) (hi : i < l.length) (hn : (rd_L4 l (i : Int)).length ≤ 9223372036854775807)
    (hnext : Ev (fun k => portageref0_SameProfile.l0 k (wrap64 ((i : Int) + 1)) l l) true) (e : Nat) : ∀ j : Nat, (rd_L4 l (i : Int)).length - j = e → Ev (fun k => portageref0_SameProfile.l1 k (i : Int) (j : Int) l l) true := by
  induction e with
  | zero =>
    intro j hj
    exact Ev.step (fun k => by simp only [portageref0_SameProfile.l1]; rw [if_pos (by omega), if_pos (by omega), if_neg (by omega)]) hnext
  | succ e ih =>
    intro j hj
    refine Ev.step (fun k => ?_) (ih (j + 1) (by omega))
    simp only [portageref0_SameProfile.l1]
    rw [if_pos (by omega), if_pos (by omega), if_pos (by omega), if_pos (by omega), if_pos (by omega), if_pos (by omega), if_neg (by simp), wrap_nat j _ (by omega) hn]
theorem same_l0 (l : List (List S28)) (hl : l.length ≤ 9223372036854775807) (hn : ∀ x ∈ l, x.length ≤ 9223372036854775807) (d : Nat) : ∀ i : Nat, l.length - i = d → Ev (fun k => portageref0_SameProfile.l0 k (i : Int) l l) true := by
  induction d with
  | zero =>
    intro i hi
    exact Ev.step (fun k => by simp only [portageref0_SameProfile.l0]; rw [if_neg (by omega)]) (Ev.now true)
  | succ d ih =>
    intro i hi
    have hx : (rd_L4 l (i : Int)).length ≤ 9223372036854775807 := hn _ (by simp [rd_L4, List.getD_eq_getElem?_getD, List.getElem?_eq_getElem (show i < l.length by omega)])
    refine Ev.step (fun k => ?_) (same_l1 l i (by omega) hx (by rw [wrap_nat i _ (by omega) hl]; exact ih (i + 1) (by omega)) _ 0 rfl)
    simp only [portageref0_SameProfile.l0]
    rw [if_pos (by omega), if_pos (by omega), if_pos (by omega), if_pos trivial]
    rfl
theorem same_self (l : List (List S28)) (hl : l.length ≤ 9223372036854775807) (hn : ∀ x ∈ l, x.length ≤ 9223372036854775807) : ∃ k, portageref0_SameProfile.f k l l = some true := by
  obtain ⟨k, hk⟩ := (same_l0 l hl hn _ 0 rfl).rounds
  refine ⟨k, ?_⟩
  unfold portageref0_SameProfile.f
  rw [if_pos rfl]
  exact hk

/-- Rows that are read are no longer than a slice can be. -/
theorem row_max {w : World} {A : Option Addr} {n : Nat} {l : List (List S28)} (h : Kd.C (Kd.slice 28 k28) w A n l) : l.length ≤ 9223372036854775807 ∧ ∀ x ∈ l, x.length ≤ 9223372036854775807 := by
  have hn : l.length = n := h.1
  refine ⟨by rw [hn]; exact h.2.1, fun x hx => ?_⟩
  obtain ⟨i, hi, rfl⟩ := List.getElem_of_mem hx
  obtain ⟨ad, A0, c0, _, _, _, hr⟩ := at_L4 h (i : Int) (by omega) (by omega)
  have h2 := Kd.C_max hr
  simpa [rd_L4, List.getD_eq_getElem?_getD, List.getElem?_eq_getElem hi] using h2
theorem same_read {w : World} {A : Option Addr} {n : Nat} {l : List (List S28)} (h : Kd.C (Kd.slice 28 k28) w A n l) : ∃ k, portageref0_SameProfile.f k l l = some true := same_self l (row_max h).1 (row_max h).2
end Go.Proofs.Ytjeaojolhdfpeaa.SameD
namespace Go.Proofs.Ytjeaojolhdfpeaa.LentBD
open Go.RowKit Go.Proofs.YtjeaojolhdfpeaaW.PrintWords Go.Proofs.YtjeaojolhdfpeaaW.PrintLast Go.Proofs.YtjeaojolhdfpeaaW.PrintMore
open Go.Proofs.Ytjeaojolhdfpeaa.PProfileDecode
set_option linter.unusedVariables false
set_option linter.unusedSimpArgs false

def mk (j : Nat) : Int := (201 + (j : Int) % 40) % 256
def mks (n : Nat) : List Int := (List.range n).map mk
theorem mks_zero : mks 0 = [] := rfl
theorem mks_succ (n : Nat) : mks (n + 1) = mks n ++ [mk n] := by simp [mks, List.range_succ]
theorem mks_length (n : Nat) : (mks n).length = n := by simp [mks]
theorem tmod40 (j : Nat) : (wrap64 (201 + (Int.tmod (j : Int) 40))) % 256 = mk j := by
  have : Int.tmod (j : Int) 40 = (j : Int) % 40 := Int.tmod_eq_emod_of_nonneg (by omega)
  rw [this]
  unfold mk wrap64
  omega
theorem lent_l1 (bs : List Int) (hl : bs.length ≤ 140737488351232) (d : Nat) : ∀ j : Nat, 64 - j = d → j ≤ 64 → Ev (fun k => portagekit_Lent.l1 k (bs ++ mks j) (j : Int)) (bs ++ mks 64) := by
  induction d with
  | zero =>
    intro j hj hle
    obtain rfl : j = 64 := by omega
    refine Ev.step (fun k => ?_) (Ev.now _)
    simp only [portagekit_Lent.l1]
    rw [if_neg (by omega)]
  | succ d ih =>
    intro j hj hle
    refine Ev.step (fun k => ?_) (ih (j + 1) (by omega) (by omega))
    simp only [portagekit_Lent.l1]
    have hw : wrap64 ((j : Int) + 1) = ((j + 1 : Nat) : Int) := by unfold wrap64; omega
    rw [if_pos (by omega), if_pos (by rw [List.length_append, mks_length]; omega), hw, tmod40, List.append_assoc, ← mks_succ]
theorem lent_l0 (bs : List Int) (hl : bs.length ≤ 140737488351232) (d : Nat) : ∀ i : Nat, bs.length - i = d → i ≤ bs.length → Ev (fun k => portagekit_Lent.l0 k bs (bs.take i) (i : Int)) (bs ++ mks 64) := by
  induction d with
  | zero =>
    intro i hi hle
    obtain rfl : i = bs.length := by omega
    refine Ev.step (fun k => ?_) (lent_l1 bs hl _ 0 rfl (by omega))
    simp only [portagekit_Lent.l0]
    rw [if_neg (by omega), List.take_length, mks_zero, List.append_nil]
    rfl
  | succ d ih =>
    intro i hi hle
    refine Ev.step (fun k => ?_) (ih (i + 1) (by omega) (by omega))
    simp only [portagekit_Lent.l0]
    have hw : wrap64 ((i : Int) + 1) = ((i + 1 : Nat) : Int) := by unfold wrap64; omega
    have ht : bs.take i ++ [rd bs (i : Int)] = bs.take (i + 1) := by
      rw [List.take_succ_eq_append_getElem (by omega : i < bs.length)]
      simp [rd, List.getD_eq_getElem?_getD, List.getElem?_eq_getElem (by omega : i < bs.length)]
    rw [if_pos (by omega), if_pos (by omega), if_pos (by rw [List.length_take]; omega), hw, ht]
theorem lent_f (bs : List Int) (hl : bs.length ≤ 140737488351232) : ∃ k, portagekit_Lent.f k bs = some (bs ++ mks 64) := (lent_l0 bs hl _ 0 rfl (Nat.zero_le _)).rounds
theorem rd_left (xs ys : List Int) (i : Nat) (h : i < xs.length) : rd (xs ++ ys) (i : Int) = rd xs (i : Int) := by
  simp only [rd, List.getD_eq_getElem?_getD, Int.toNat_natCast]
  rw [List.getElem?_append_left h]
theorem rd_right (xs ys : List Int) (i : Nat) (h : xs.length ≤ i) : rd (xs ++ ys) (i : Int) = rd ys ((i - xs.length : Nat) : Int) := by
  simp only [rd, List.getD_eq_getElem?_getD, Int.toNat_natCast]
  rw [List.getElem?_append_right h]
theorem rd_mks (n j : Nat) (h : j < n) : rd (mks n) (j : Int) = mk j := by
  simp [rd, mks, List.getD_eq_getElem?_getD, h]
theorem kept_l0 (bs : List Int) (hl : bs.length ≤ 140737488351232) (d : Nat) : ∀ i : Nat, bs.length + 64 - i = d → i ≤ bs.length + 64 → Ev (fun k => portagekit_Kept.l0 k (bs ++ mks 64) bs (i : Int)) true := by
  induction d with
  | zero =>
    intro i hi hle
    refine Ev.step (fun k => ?_) (Ev.now _)
    simp only [portagekit_Kept.l0]
    rw [if_neg (by rw [List.length_append, mks_length]; omega)]
  | succ d ih =>
    intro i hi hle
    refine Ev.step (fun k => ?_) (ih (i + 1) (by omega) (by omega))
    simp only [portagekit_Kept.l0]
    have hw : wrap64 ((i : Int) + 1) = ((i + 1 : Nat) : Int) := by unfold wrap64; omega
    rw [if_pos (by rw [List.length_append, mks_length]; omega)]
    by_cases h : i < bs.length
    · rw [if_pos (by omega), if_pos (by omega), rd_left _ _ _ h, if_pos rfl, hw]
    · have h2 : wrap64 ((i : Int) - (bs.length : Int)) = ((i - bs.length : Nat) : Int) := by unfold wrap64; omega
      rw [if_neg (by omega), if_pos (by omega), rd_right _ _ _ (by omega), h2, tmod40, rd_mks _ _ (by omega), if_pos rfl, hw]
theorem kept_f (bs : List Int) (hl : bs.length ≤ 140737488351232) : ∃ k, portagekit_Kept.f k (bs ++ mks 64) bs = some true := by
  obtain ⟨k, hk⟩ := (kept_l0 bs hl _ 0 rfl (Nat.zero_le _)).rounds
  refine ⟨k, ?_⟩
  unfold portagekit_Kept.f
  have hw : wrap64 ((bs.length : Int) + 64) = ((bs.length + 64 : Nat) : Int) := by unfold wrap64; omega
  rw [if_pos (by rw [hw, List.length_append, mks_length])]
  exact hk
end Go.Proofs.Ytjeaojolhdfpeaa.LentBD
namespace Go.Proofs.Ytjeaojolhdfpeaa.DecParts
open Go.RowKit Go.Proofs.YtjeaojolhdfpeaaW.PrintWords Go.Proofs.YtjeaojolhdfpeaaW.PrintLast Go.Proofs.YtjeaojolhdfpeaaW.PrintMore
open Go.Proofs.Ytjeaojolhdfpeaa.PProfileDecode Go.Proofs.Ytjeaojolhdfpeaa.Scribble Go.Proofs.Ytjeaojolhdfpeaa.Decode
set_option linter.unusedVariables false
set_option linter.unusedSimpArgs false

set_option maxHeartbeats 8000000 in
set_option maxRecDepth 100000 in
theorem scribble_none (A : Option Addr) (c : Nat) (w0 w : World) (S : Nat → Prop) (hB : Below w0.heap.size w0 w) :
    Calls Try.prog 26 #[.agg #[.slice A 0 c]] w fun e w' => e = .returned (.tuple #[]) ∧ Below w0.heap.size w0 w' ∧ Kept w w' S := by
  have H := Aside0.mk (below_alloc hB (.cells #[.slice A 0 c] 24))
  have BB : Aside0 ((w.alloc (.cells #[.slice A 0 c] 24)).heap[w.heap.size]? = some (.cells #[.slice A 0 c] 24 (0, 0))) := ⟨blk_new _ _⟩
  have HK := Aside0.mk ((Kept.refl w S).alloc (.cells #[.slice A 0 c] 24))
  clear hB
  go_enter Try.func26, Try.ntmps26
  go_wp2_with fail
  generalize w.alloc (.cells #[.slice A 0 c] 24) = W at H BB HK ⊢
  have hb0 : W.cell? ⟨w.heap.size, 0, none⟩ = some (.slice A 0 c) := (blk_cell BB.out 0).trans rfl
  go_loop [2] (fun i => i = .int .i64 0) (fun _ => 0)
  case atStart => rfl
  case round =>
    subst hrel
    go_wp2
    go_end0
    exact ⟨rfl, H.out, HK.out⟩
/-- A row of one's own of spots is there. -/
theorem there_of_R {W : World} {S ok : Nat → Prop} {base : Nat} {v : Value} {xs : List S28} (h : Kd.R k28 28 W base ok v xs) (hS : ∀ k, ok k → S k) : ∃ A c, v = .slice A xs.length c ∧ xs.length ≤ 9223372036854775807 ∧ There W S A xs.length := by
  obtain ⟨h1, inner, ⟨hl, ho⟩, hr⟩ := h
  rcases ho with ⟨rfl, h0⟩ | ⟨g, cap, cur, rfl, hb, hh, hc, hm, hs, ht⟩
  · exact ⟨none, 0, by rw [h0], by omega, fun hp => by omega⟩
  · refine ⟨_, _, rfl, by unfold maxLen at hm; omega, fun hp => ⟨g, cur, rfl, hS g (h1 g (by simp [Value.ownBlock])), hh, ?_⟩⟩
    have h4 : k28.sz = 4 := rfl
    rw [h4] at hs
    omega
/-- Rows of rows of one's own may be written over. -/
theorem wild_of_R {w0 W : World} {S ok : Nat → Prop} {base : Nat} {v : Value} {ls : List (List S28)} (h : Kd.R kr 77 W base ok v ls) (hS : ∀ k, ok k → S k) (hp : 0 < ls.length) (hB : Below w0.heap.size w0 W) :
    ∃ o c, v = .slice (some ⟨o, 0, none⟩) ls.length c ∧ Wild w0 W W S o ls.length 0 ∧ ls.length ≤ 9223372036854775807 := by
  obtain ⟨h1, inner, ⟨hl, ho⟩, hr⟩ := h
  rcases ho with ⟨rfl, h0⟩ | ⟨g, cap, cur, rfl, hb, hh, hc, hm, hs, ht⟩
  · omega
  · have hsz : kr.sz = 1 := rfl
    rw [hsz] at hs hl ht hr
    refine ⟨g, cap, rfl, ⟨hB, Kept.refl _ _, hS g (h1 g (by simp [Value.ownBlock])), cur, hh, by omega, fun k _ hk => ?_⟩, by unfold maxLen at hm; omega⟩
    obtain ⟨vk, hvk, hR⟩ := hr.2 k ls[k] (List.getElem?_eq_getElem hk)
    obtain ⟨A, c, e, hx, hT⟩ := there_of_R (S := S) hR (fun j hj => hS j hj.1)
    refine ⟨A, ls[k].length, c, ?_, hx, hT⟩
    subst e
    have h3 : inner[k]? = some (.slice A ls[k].length c) := by
      have := congrArg (fun l => l[0]?) hvk
      simpa [List.getElem?_take, List.getElem?_drop] using this
    rw [← ht] at h3
    rw [List.getElem?_take, if_pos (by omega)] at h3
    rw [← Array.getElem?_toList]
    exact h3
theorem scribble_any {w0 w : World} {S ok : Nat → Prop} {base : Nat} {v : Value} {ls : List (List S28)} (h : Kd.R kr 77 w base ok v ls) (hS : ∀ k, ok k → S k) (hbase : ∀ k, S k → w0.heap.size ≤ k) (hB : Below w0.heap.size w0 w) :
    Calls Try.prog 26 #[.agg #[v]] w fun e w' => e = .returned (.tuple #[]) ∧ Below w0.heap.size w0 w' ∧ Kept w w' S := by
  rcases Nat.eq_zero_or_pos ls.length with h0 | h0
  · obtain ⟨A, c, rfl⟩ := Kd.R_slice h
    rw [h0]
    exact scribble_none A c w0 w S hB
  · obtain ⟨o, c, rfl, hw, hm⟩ := wild_of_R h hS h0 hB
    exact scribble o ls.length c S w0 w hw hbase hm
end Go.Proofs.Ytjeaojolhdfpeaa.DecParts
