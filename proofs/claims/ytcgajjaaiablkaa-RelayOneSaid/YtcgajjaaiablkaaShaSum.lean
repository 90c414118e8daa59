/- digest: Sum. -/
import Derived.Test.YtcgajjaaiablkaaShaEnd
namespace Go.Proofs.Ytcgajjaaiablkaa.ShaSum
open Go.RowKit Go.Proofs.YtcgajjaaiablkaaW.PrintWords Go.Proofs.YtcgajjaaiablkaaW.PrintLast Go.Proofs.YtcgajjaaiablkaaW.PrintMore
open Go.Proofs.Ytcgajjaaiablkaa.PRelaySealed Go.Proofs.Ytcgajjaaiablkaa.ShaP Go.Proofs.Ytcgajjaaiablkaa.ShaM Go.Proofs.Ytcgajjaaiablkaa.ShaRound Go.Proofs.Ytcgajjaaiablkaa.ShaBehind Go.Proofs.Ytcgajjaaiablkaa.ShaWrite Go.Proofs.Ytcgajjaaiablkaa.ShaEnd
set_option linter.unusedVariables false
set_option linter.unusedSimpArgs false

def z73 : Array Value := (mkL (List.replicate 8 0) (List.replicate 64 0) 0).toArray
theorem fold114 : (Array.foldl (fun cs x => cs.setIfInBounds x.snd x.fst) Try.zeroCells114 (u32s iv).zipIdx 0 (u32s iv).size) = (mkL iv (List.replicate 64 0) 0).toArray := by kernel_rfl
theorem one73 (v r : List Int) (T : Int) : (mkL v r T).toArray.all (·.oneCell') = true := by
  rw [Array.all_eq_true_iff_forall_mem]
  intro x hx
  simp only [mkL, List.mem_toArray, List.mem_append, List.mem_map, List.mem_singleton] at hx
  rcases hx with ⟨_, _, rfl⟩ | ⟨_, _, rfl⟩ | rfl <;> rfl
set_option maxHeartbeats 8000000 in
set_option maxRecDepth 100000 in
theorem sum_calls (b : List Int) (A : Option Addr) (c : Nat) (w : World) (hC : Kd.C (Kd.int .u8) w A b.length b) (hc : b.length ≤ c) (hl : b.length ≤ 281474976710000) :
    Calls Try.prog 47 #[.slice A b.length c] w fun e w' => e = .returned (.agg (u8s (sumOf b))) ∧ Below w.heap.size w w' := by
  have HC := Aside0.mk hC
  have HCC := Aside0.mk hc
  have HL := Aside0.mk hl
  have HAL : Aside0 (0 < b.length → ∀ ad, A = some ad → ad.block < w.heap.size) := ⟨fun h0 ad had => by
    subst had
    obtain ⟨ad', e, hx⟩ := Kd.at_int hC 0 (by omega) (by omega)
    cases e
    have := World.block_lt_of_cell? w _ hx
    have hb : (ad.add (0 : Int).toNat).block = ad.block := by unfold Addr.add; split <;> rfl
    rw [hb] at this
    exact this⟩
  clear hC hc hl
  go_enter Try.func47, Try.ntmps47
  go_upto_region 2 with (first
    | ((with_reducible refine gate_dst (N := 2) rfl ?_); refine box_event_ 56 (u8s (List.replicate 32 0)) rfl rfl (by first | (go_simp; done) | (go_simp; rfl)) ?_; intro g2 w1 hg hA hb; have HA2 := Aside0.mk hA; have HB1 := Aside0.mk hb; have HG2 := Aside0.mk hg; clear hg hA hb)
    | (go_at_call 79; refine (first_calls _).mono ?_; rintro e w2 ⟨rfl, hb⟩; have HB2 := Aside0.mk hb; clear hb)
    | ((with_reducible refine gate_dst (N := 3) rfl ?_); refine box_event_ 114 z73 rfl rfl (by first | (go_simp; done) | (go_simp; rfl)) ?_; intro g3 w3 hg hA hb; have HA3 := Aside0.mk hA; have HB3 := Aside0.mk hb; have HG3 := Aside0.mk hg; clear hg hA hb)
    | ((with_reducible refine gate_store (t := 114) (p := 3) rfl ?_); refine put_row rfl rfl rfl (g := g3) (mkL iv (List.replicate 64 0) 0).toArray rfl (congrArg Value.agg fold114) HA3.out info114 rfl (one73 _ _ _) ?_; intro w4 h1 h2; have HR := Aside0.mk h1; have HWr := Aside0.mk h2; clear h1 h2))
  have H4 : Aside0 (Below w.heap.size w w4 ∧ w.heap.size ≤ g3 ∧ g2 ≠ g3 ∧ w4.heap[g2]? = some (.cells (u8s (List.replicate 32 0)) 56 (0, 0))) := ⟨by
    have e1 := HB1.out.size
    have e2 := HB2.out.size
    have k2 := blk_lt HA2.out
    have h3 := HG3.out
    have hne : g2 ≠ g3 := by omega
    have k22 : g2 < w2.heap.size := by omega
    exact ⟨HWr.out.below (below_step (below_step HB1.out HB2.out) HB3.out) (by omega), by omega, hne, HWr.out.other ((HB3.out.block g2 k22).trans ((HB2.out.block g2 k2).trans HA2.out)) hne⟩⟩
  have HI : Aside0 (MK w w4 w4 g3 [] (([] : List Int).length : Int)) := ⟨⟨HR.out, H4.out.2.1, H4.out.1, KeepBut.refl _ _ _, rfl, List.length_replicate⟩⟩
  clear HA2 HB1 HB2 HB3 HA3 HG3 HR HWr
  go_upto_region 3 with (go_at_call 80; refine (write_calls w _ g3 [] b A c HI.out (Kd.C_below HC.out H4.out.1) HCC.out (fun h0 ad had => Nat.ne_of_lt (Nat.lt_of_lt_of_le (HAL.out h0 ad had) H4.out.2.1)) (by have := HL.out; rw [List.length_nil]; omega)).mono ?_; rintro e w5 ⟨rfl, hm⟩; have HM := Aside0.mk hm; clear hm)
  rw [List.nil_append] at HM
  have H5 : Aside0 (w5.heap[g2]? = some (.cells (u8s (List.replicate 32 0)) 56 (0, 0))) := ⟨(HM.out.keep.2 g2 (blk_lt H4.out.2.2.2) H4.out.2.2.1 (by simp)).trans H4.out.2.2.2⟩
  have HD : Aside0 ((sumOf b).length = 32) := ⟨dig_length _ 32⟩
  go_wp2_with (first
    | ((with_reducible refine gate_dst (N := 8) rfl ?_); refine get_row rfl rfl rfl HM.out.blk Try.underlying114 rfl (info114.trans (by rw [List.size_toArray, mkL_length _ _ _ (hv_length b) (hr_length b)])) rfl ?_)
    | (go_at_call 81; refine (end_calls b _ HL.out).mono ?_; rintro e w6 ⟨rfl, hb⟩; have HB6 := Aside0.mk hb; clear hb)
    | ((with_reducible refine gate_store (t := 56) (p := 2) rfl ?_); refine put_row rfl rfl rfl (g := g2) (u8s (sumOf b)) rfl rfl ((HB6.out.block g2 (blk_lt H5.out)).trans H5.out) (info56.trans (by rw [size_u8s, HD.out])) (by rw [size_u8s, size_u8s, HD.out]; rfl) (all_one _ _) ?_; intro w20 h1 h2; have HR := Aside0.mk h1; have HWr := Aside0.mk h2; clear h1 h2))
  refine bodyPost_ret (results_cell_row rfl _ _ g2 56 _ (0, 0) _ rfl HR.out Try.underlying56 rfl (info56.trans (by rw [size_u8s, HD.out]))) rfl ?_
  exact ⟨rfl, HWr.out.below (below_step HM.out.below HB6.out) HG2.out⟩
end Go.Proofs.Ytcgajjaaiablkaa.ShaSum
