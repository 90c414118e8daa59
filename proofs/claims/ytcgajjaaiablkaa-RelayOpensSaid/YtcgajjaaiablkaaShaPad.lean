/- The reference's padding, in plain words. -/
import Derived.Test.YtcgajjaaiablkaaShaEnd
import Derived.Test.YtcgajjaaiablkaaPRelaySealedx2
namespace Go.Proofs.Ytcgajjaaiablkaa.ShaPad
open Go.RowKit Go.Proofs.YtcgajjaaiablkaaW.PrintWords Go.Proofs.YtcgajjaaiablkaaW.PrintLast Go.Proofs.YtcgajjaaiablkaaW.PrintMore
open Go.Proofs.Ytcgajjaaiablkaa.PRelaySealed Go.Proofs.Ytcgajjaaiablkaa.ShaEnd
set_option linter.unusedVariables false
set_option linter.unusedSimpArgs false

theorem shift_at (i : Nat) (hi : i < 8) : IntKind.u64.wrap (wrap64 (56 - (wrap64 (8 * (i : Int))))) = ((56 - 8 * i : Nat) : Int) := by
  have h1 : wrap64 (8 * (i : Int)) = 8 * (i : Int) := by unfold wrap64; omega
  rw [h1]
  have h2 : wrap64 (56 - 8 * (i : Int)) = ((56 - 8 * i : Nat) : Int) := by unfold wrap64; omega
  rw [h2]
  have : ((56 - 8 * i : Nat) : Int) < 18446744073709551616 := by omega
  simp only [IntKind.wrap, IntKind.bits, IntKind.signed]
  simp
  omega
theorem shr_at (x : Int) (m : Nat) (hm : m ≤ 64) : shr .u64 x (m : Int) = x / 2 ^ m := by
  unfold shr
  rw [Int.toNat_natCast, Nat.min_eq_left (by simpa [IntKind.bits] using hm)]
theorem bits_at (n : Nat) (h : n ≤ 281474976710656) : IntKind.u64.wrap ((IntKind.u64.wrap ((n : Nat) : Int)) * 8) = (n : Int) * 8 := by
  have h1 : IntKind.u64.wrap ((n : Nat) : Int) = (n : Int) := by
    simp only [IntKind.wrap, IntKind.bits, IntKind.signed]
    simp
    omega
  rw [h1]
  simp only [IntKind.wrap, IntKind.bits, IntKind.signed]
  simp
  omega
theorem pad_l2 (n : Nat) (P : List Int) (hP : P.length + 8 ≤ 140737488355328) : ∀ d i, i + d = 8 → Ev (fun k => portageref02_Padded.l2 k (P ++ lb n i) ((n : Int) * 8) (i : Int)) (P ++ lb n 8)
  | 0, i, h => by
    obtain rfl : i = 8 := by omega
    refine Ev.step (fun k => by simp only [portageref02_Padded.l2]; rw [if_neg (by decide)]) (Ev.now _)
  | d + 1, i, h => by
    have hi : i < 8 := by omega
    have hs := shift_at i hi
    have hv : shr .u64 ((n : Int) * 8) ((56 - 8 * i : Nat) : Int) = (n : Int) * 8 / 2 ^ (56 - 8 * i) := shr_at _ _ (by omega)
    have hw : wrap64 ((i : Int) + 1) = ((i + 1 : Nat) : Int) := by unfold wrap64; omega
    refine Ev.step (fun k => ?_) (pad_l2 n P hP d (i + 1) (by omega))
    simp only [portageref02_Padded.l2]
    rw [if_pos (by omega), hs, if_pos (by omega), if_pos (by rw [List.length_append, lb_length]; omega), hv, hw, List.append_assoc]
    rfl
theorem pad_l1 (b P : List Int) (hb : b.length ≤ 140737488355232) (hP : P = b) : ∀ d z, z + d = padN b.length → Ev (fun k => portageref02_Padded.l1 k b (P ++ padZ b.length z)) (b ++ padOf b.length)
  | 0, z, h => by
    subst hP
    obtain rfl : z = padN P.length := by omega
    have hn : padN P.length = (119 - P.length % 64) % 64 := rfl
    have hl : (P ++ padZ P.length (padN P.length)).length = P.length + padN P.length + 1 := by rw [List.length_append, padZ_length]; omega
    have hgo := pad_l2 P.length (P ++ padZ P.length (padN P.length)) (by rw [hl]; omega) 8 0 rfl
    rw [lb, List.append_nil, List.append_assoc] at hgo
    refine Ev.step (fun k => ?_) hgo
    simp only [portageref02_Padded.l1]
    rw [if_pos (by rw [hl]; omega), bits_at _ (by omega)]
    rfl
  | d + 1, z, h => by
    subst hP
    have hn : padN P.length = (119 - P.length % 64) % 64 := rfl
    have hl : (P ++ padZ P.length z).length = P.length + z + 1 := by rw [List.length_append, padZ_length]; omega
    refine Ev.step (fun k => ?_) (pad_l1 P P hb rfl d (z + 1) (by omega))
    simp only [portageref02_Padded.l1]
    rw [if_neg (by rw [hl]; omega), if_pos (by rw [hl]; omega), List.append_assoc, padZ_succ]
theorem pad_l0 (b : List Int) (hb : b.length ≤ 140737488355232) : ∀ d i, i + d = b.length → Ev (fun k => portageref02_Padded.l0 k b (b.take i) (i : Int)) (b ++ padOf b.length)
  | 0, i, h => by
    obtain rfl : i = b.length := by omega
    have hgo := pad_l1 b b hb rfl (padN b.length) 0 (by omega)
    refine Ev.step (fun k => ?_) hgo
    simp only [portageref02_Padded.l0]
    rw [if_neg (by omega), List.take_length, if_pos (by omega)]
    rfl
  | d + 1, i, h => by
    have hi : i < b.length := by omega
    have hw : wrap64 ((i : Int) + 1) = ((i + 1 : Nat) : Int) := by unfold wrap64; omega
    have hr : rd b (i : Int) = b[i] := by simp [rd, List.getD_eq_getElem?_getD, hi]
    refine Ev.step (fun k => ?_) (pad_l0 b hb d (i + 1) (by omega))
    simp only [portageref02_Padded.l0]
    rw [if_pos (by omega), if_pos (by omega), if_pos (by rw [List.length_take]; omega), hw, hr, List.take_add_one, List.getElem?_eq_getElem hi]
    rfl
theorem padded_calls (b : List Int) (A : Option Addr) (c : Nat) (w : World) (hC : Kd.C (Kd.int .u8) w A b.length b) (hc : b.length ≤ c) (hb : b.length ≤ 140737488355232) :
    Calls Try.prog 64 #[.slice A b.length c] w fun e w' => ∃ v, e = .returned v ∧ Kd.R (Kd.int .u8) 5 w' w.heap.size (fun _ => True) v (b ++ padOf b.length) ∧ Below w.heap.size w w' := by
  obtain ⟨k, hk⟩ := (pad_l0 b hb b.length 0 (by omega)).rounds
  exact portageref02_Padded.calls k A c b (b ++ padOf b.length) w hC hc hk
end Go.Proofs.Ytcgajjaaiablkaa.ShaPad
