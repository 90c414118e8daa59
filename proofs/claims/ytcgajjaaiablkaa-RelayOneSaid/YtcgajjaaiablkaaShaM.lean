/- SHA-256 of bytes that come piece by piece, in plain words; the cells of a mark. -/
import Derived.Test.YtcgajjaaiablkaaShaP
import Derived.Deep.MidRow
import Derived.Laws.CopyRow
namespace Go.Proofs.Ytcgajjaaiablkaa.ShaM
open Go.RowKit Go.Proofs.YtcgajjaaiablkaaW.PrintWords Go.Proofs.YtcgajjaaiablkaaW.PrintLast Go.Proofs.YtcgajjaaiablkaaW.PrintMore
open Go.Proofs.Ytcgajjaaiablkaa.ShaP
set_option linter.unusedVariables false
set_option linter.unusedSimpArgs false

def blocksN (p : List Int) : Nat → List Int
  | 0 => iv
  | n + 1 => comp (blocksN p n) ((p.drop (64 * n)).take 64)
theorem blocksN_length (p : List Int) : ∀ n, (blocksN p n).length = 8
  | 0 => rfl
  | n + 1 => comp_length _ _ (blocksN_length p n)
theorem blocksN_app (M c : List Int) : ∀ n, 64 * n ≤ M.length → blocksN (M ++ c) n = blocksN M n
  | 0, _ => rfl
  | n + 1, h => by
    rw [blocksN, blocksN, blocksN_app M c n (by omega)]
    congr 1
    rw [List.drop_append_of_le_length (by omega), List.take_append_of_le_length (by rw [List.length_drop]; omega)]
def hv (M : List Int) : List Int := blocksN M (M.length / 64)
def hr (M : List Int) : List Int := M.drop (64 * (M.length / 64)) ++ List.replicate (64 - M.length % 64) 0
theorem hv_length (M : List Int) : (hv M).length = 8 := blocksN_length M _
theorem hr_length (M : List Int) : (hr M).length = 64 := by
  unfold hr
  rw [List.length_append, List.length_drop, List.length_replicate]
  omega
theorem rest_length (M : List Int) : (M.drop (64 * (M.length / 64))).length = M.length % 64 := by rw [List.length_drop]; omega
theorem step_less (M c : List Int) (h : M.length % 64 + c.length < 64) : hv (M ++ c) = hv M ∧ hr (M ++ c) = splice (hr M) (M.length % 64) c := by
  have hq : (M ++ c).length / 64 = M.length / 64 := by rw [List.length_append]; omega
  have hm : (M ++ c).length % 64 = M.length % 64 + c.length := by rw [List.length_append]; omega
  refine ⟨?_, ?_⟩
  · unfold hv
    rw [hq, blocksN_app M c _ (by omega)]
  · unfold hr splice
    rw [hq, hm, List.drop_append_of_le_length (by omega)]
    have hl := rest_length M
    generalize M.drop (64 * (M.length / 64)) = R at hl
    rw [← hl, List.take_left', List.drop_append, List.drop_of_length_le (by omega), List.append_assoc]
    · simp only [List.nil_append, List.drop_replicate]
      congr 3
      omega
    · rfl
theorem step_full (M c : List Int) (h : M.length % 64 + c.length = 64) : hv (M ++ c) = comp (hv M) (splice (hr M) (M.length % 64) c) ∧ hr (M ++ c) = List.replicate 64 0 := by
  have hq : (M ++ c).length / 64 = M.length / 64 + 1 := by rw [List.length_append]; omega
  have hm : (M ++ c).length % 64 = 0 := by rw [List.length_append]; omega
  have hl := rest_length M
  have hd : (M ++ c).drop (64 * (M.length / 64)) = M.drop (64 * (M.length / 64)) ++ c := List.drop_append_of_le_length (by omega)
  refine ⟨?_, ?_⟩
  · unfold hv hr splice
    rw [hq, blocksN, blocksN_app M c _ (by omega), hd]
    generalize M.drop (64 * (M.length / 64)) = R at hl
    rw [← hl, List.take_left' rfl, List.take_of_length_le (by rw [List.length_append]; omega)]
    congr 2
    rw [List.drop_of_length_le (by rw [List.length_append, List.length_replicate]; omega), List.append_nil]
  · unfold hr
    rw [hm, List.drop_of_length_le (by omega)]
    rfl
/-- A mark's cells. -/
def mkL (v r : List Int) (tot : Int) : List Value := v.map (fun x => Value.int .u32 x) ++ (r.map (fun x => Value.int .u8 x) ++ [Value.int .u64 tot])
theorem mkL_length (v r : List Int) (tot : Int) (hv : v.length = 8) (hr : r.length = 64) : (mkL v r tot).length = 73 := by simp [mkL, hv, hr]
theorem mkL_tot (v r : List Int) (tot : Int) (hv : v.length = 8) (hr : r.length = 64) : (mkL v r tot)[72]? = some (.int .u64 tot) := by
  unfold mkL
  rw [List.getElem?_append_right (by simp [hv]), List.getElem?_append_right (by simp [hv, hr])]
  simp [hv, hr]
theorem mkL_v (v r : List Int) (tot : Int) (hv : v.length = 8) (j : Nat) (hj : j < 8) : (mkL v r tot)[j]? = some (.int .u32 (rd v (j : Int))) := by
  unfold mkL
  rw [List.getElem?_append_left (by simp [hv]; exact hj)]
  simp [rd, List.getD_eq_getElem?_getD, hv, hj]
theorem mkL_r (v r : List Int) (tot : Int) (hv : v.length = 8) (hr : r.length = 64) (j : Nat) (hj : j < 64) : (mkL v r tot)[8 + j]? = some (.int .u8 (rd r (j : Int))) := by
  unfold mkL
  rw [List.getElem?_append_right (by simp [hv]), List.getElem?_append_left (by simp [hv, hr]; exact hj)]
  simp [hv, rd, List.getD_eq_getElem?_getD, hr, hj]
theorem mkL_set (v r : List Int) (tot t' : Int) (hv : v.length = 8) (hr : r.length = 64) : (mkL v r tot).set 72 (.int .u64 t') = mkL v r t' := by
  unfold mkL
  rw [List.set_append_right _ _ (by simp [hv]), List.set_append_right _ _ (by simp [hv, hr])]
  simp [hv, hr]
theorem splice_v (v v' r : List Int) (tot : Int) (hv : v.length = 8) (hv' : v'.length = 8) : splice (mkL v r tot) 0 (v'.map fun x => Value.int .u32 x) = mkL v' r tot := by
  unfold splice mkL
  simp only [List.take_zero, List.nil_append, Nat.zero_add, List.length_map]
  rw [List.drop_append, List.drop_of_length_le (by simp [hv, hv'])]
  simp [hv, hv']
theorem splice_r (v r c : List Int) (tot : Int) (i : Nat) (hv : v.length = 8) (hr : r.length = 64) (hi : i + c.length ≤ 64) : splice (mkL v r tot) (8 + i) (c.map fun x => Value.int .u8 x) = mkL v (splice r i c) tot := by
  unfold splice mkL
  have e1 : 8 + i = (v.map fun x => Value.int .u32 x).length + i := by simp [hv]
  have e2 : 8 + i + (c.map fun x => Value.int .u8 x).length = (v.map fun x => Value.int .u32 x).length + (i + c.length) := by simp [hv]; omega
  rw [e2, e1, List.take_length_add_append, List.drop_length_add_append]
  rw [List.take_append_of_le_length (by simp [hr]; omega), List.drop_append_of_le_length (by simp [hr]; omega)]
  simp only [List.map_append, List.map_take, List.map_drop, List.append_assoc]
end Go.Proofs.Ytcgajjaaiablkaa.ShaM
