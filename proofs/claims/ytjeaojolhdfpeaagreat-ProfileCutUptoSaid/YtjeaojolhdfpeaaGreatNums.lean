/- Profile: Hot, as its callers see it. -/
/- Plain arithmetic: how a signed number is folded into an unsigned one. -/
import Derived.Test.YtjeaojolhdfpeaaGreatShelfP
import Derived.Test.YtjeaojolhdfpeaaGreatHotS
import Derived.Laws.BitsAllLaws
import Derived.Laws.Bits64
import Derived.RowKit
namespace Go.Proofs.YtjeaojolhdfpeaaGreat.HotW
open Go.RowKit Go.Maps Go.Sort Go.Shelf Go.Proofs.YtjeaojolhdfpeaaGreatW.PrintWords Go.Proofs.YtjeaojolhdfpeaaGreatW.PrintLast Go.Proofs.YtjeaojolhdfpeaaGreatW.PrintMore
open Go.Proofs.YtjeaojolhdfpeaaGreat.PProfileCut Go.Proofs.YtjeaojolhdfpeaaGreat.HotP Go.Proofs.YtjeaojolhdfpeaaGreat.HotM Go.Proofs.YtjeaojolhdfpeaaGreat.HotC Go.Proofs.YtjeaojolhdfpeaaGreat.HotS
set_option linter.unusedVariables false
set_option linter.unusedSimpArgs false

/-- How often a function was called: what its first spot counts. -/
def cnt (l : List (List S51)) (k : Nat) : Int := if (rd_L3 l (k : Int)).length = 0 then 0 else (rd_T51 (rd_L3 l (k : Int)) 0).f0
theorem at_first (l : List (List S51)) (k : Nat) (hk : k < l.length) : ∃ r2 r3 r4, profile_At.f l (k : Int) 0 = some (cnt l k, r2, r3, r4) := by
  unfold profile_At.f cnt
  rw [if_neg (by omega), if_neg (by omega), if_neg (by omega), if_pos (by omega), if_pos (by omega)]
  by_cases h : (rd_L3 l (k : Int)).length = 0
  · rw [if_pos (by omega), if_pos h]
    exact ⟨0, 0, 0, rfl⟩
  · rw [if_neg (by omega), if_neg h, if_pos (by omega), if_pos (by omega)]
    exact ⟨_, _, _, rfl⟩
theorem cnt_wf (l : List (List S51)) (hg : ∀ x ∈ l, ∀ s ∈ x, -9223372036854775808 ≤ s.f0 ∧ s.f0 ≤ 9223372036854775807) (k : Nat) (hk : k < l.length) : (Lit.int .i64 (cnt l k)).wf = true := by
  unfold cnt
  split
  · decide
  · rename_i h
    have hx : rd_L3 l (k : Int) ∈ l := by
      have e : rd_L3 l (k : Int) = l[k] := by simp [rd_L3, List.getD_eq_getElem?_getD, List.getElem?_eq_getElem hk]
      rw [e]
      exact List.getElem_mem hk
    have hs : rd_T51 (rd_L3 l (k : Int)) 0 ∈ rd_L3 l (k : Int) := by
      have h0 : 0 < (rd_L3 l (k : Int)).length := by omega
      have e : rd_T51 (rd_L3 l (k : Int)) 0 = (rd_L3 l (k : Int))[0] := by simp [rd_T51, List.getD_eq_getElem?_getD, List.getElem?_eq_getElem h0]
      rw [e]
      exact List.getElem_mem h0
    have h1 := hg _ hx _ hs
    generalize (rd_T51 (rd_L3 l (k : Int)) 0).f0 = z at h1 ⊢
    exact WalkArith.wf_i64 (by omega)
theorem reps_ints (w : World) (base : Nat) (ok : Nat → Prop) (L : List Int) : Reps ((Kd.int .i64).M w base ok) 1 L (L.map encZ) := by
  refine ⟨by simp, fun j p hp => ?_⟩
  obtain ⟨hj, rfl⟩ := List.getElem?_eq_some_iff.1 hp
  show _ = [encZ L[j]]
  rw [Nat.mul_one, List.drop_eq_getElem_cons (by simpa using hj)]
  simp
/-- What stands behind k rounds. -/
structure Hw (w : World) (A : Option Addr) (n c : Nat) (D : DataW Unit) (k : Nat) (W : World) : Prop where
  b1 : W.heap[w.heap.size]? = some (.cells #[.slice A n c] 25 (0, 0))
  b3 : W.heap[w.heap.size + 1 + 1]? = some (.cells #[.map (some (w.heap.size + 1))] 118 (0, 0))
  own : W.ownsMap Tryz.prog 3 (plainElem Tryz.prog 2) (w.heap.size + 1) k D
  below : Below w.heap.size w W

set_option maxHeartbeats 8000000 in
set_option maxRecDepth 100000 in
theorem hot_calls (A : Option Addr) (c : Nat) (l : List (List S51)) (least : Int) (w : World) (hr : Kd.C (Kd.slice 51 k51) w A l.length l) (hc : l.length ≤ c) (hl : l.length * 24 ≤ 140737488351232)
    (hg : ∀ x ∈ l, ∀ s ∈ x, -9223372036854775808 ≤ s.f0 ∧ s.f0 ≤ 9223372036854775807) (L : List Int) (hp : L.Perm (intKeys (Cd (cnt l) least l.length))) (hs : L.Pairwise (fun x y => HotP.lt (val (cnt l) least l.length) x y = true)) :
    Calls Tryz.prog 21 #[.agg #[.slice A l.length c], .int .i64 least] w fun e w' => ∃ v, e = .returned v ∧ Kd.R (Kd.int .i64) 3 w' w.heap.size (fun k => w.heap.size ≤ k) v L ∧ Below w.heap.size w w' := by
  have hu28 := Tryz.underlying51
  have hf28 := @f28
  have hmm := @run_makeMap Tryz.prog
  have HR := Aside0.mk hr
  have HG := Aside0.mk hg
  have HP := Aside0.mk hp
  have HS := Aside0.mk hs
  clear hr hg hp hs
  go_enter Tryz.func21, Tryz.ntmps21
  go_wp2_with fail
  have H0 : Aside0 (Hw w A l.length c (Cd (cnt l) least 0) 0 (((w.alloc (.cells #[.slice A l.length c] 25)).alloc (.map #[] 0)).alloc (.cells #[.map (some (w.heap.size + 1))] 118))) :=
    ⟨⟨blk_alloc (blk_alloc (blk_new _ _) _) _, by have := blk_new ((w.alloc (.cells #[.slice A l.length c] 25)).alloc (.map #[] 0)) (.cells #[.map (some (w.heap.size + 1))] 118); simpa using this,
      ((by have := World.ownsMap_made (H := Unit) (w.alloc (.cells #[.slice A l.length c] 25)) Tryz.prog 3 (plainElem Tryz.prog 2); simpa using this : ((w.alloc (.cells #[.slice A l.length c] 25)).alloc (.map #[] 0)).ownsMap Tryz.prog 3 (plainElem (H := Unit) Tryz.prog 2) (w.heap.size + 1) 0 (.map []))).alloc _,
      below_alloc (below_alloc (below_alloc (Below.refl _ _) _) _) _⟩⟩
  go_loopw [12] (fun i wr => ∃ k : Nat, k ≤ l.length ∧ i = .int .i64 k ∧ Aside0 (Hw w A l.length c (Cd (cnt l) least k) k wr)) (fun i _ => l.length - (intOf i).toNat)
  case atStart => exact ⟨0, by omega, rfl, H0⟩
  case round =>
    clear H0
    obtain ⟨k, hk, rfl, HI⟩ := hrel
    by_cases hlt : k < l.length
    · obtain ⟨r2, r3, r4, hat⟩ := at_first l k hlt
      have HAT := Aside0.mk hat
      have hwf := cnt_wf l HG.out k hlt
      have HWF := Aside0.mk hwf
      have hkey : keyOf Tryz.prog 3 (.int .i64 (k : Int)) = some (.int .i64 (k : Int)) := keyOf_int_mk Tryz.underlying3 (WalkArith.wf_i64 (by omega))
      have HCd : Aside0 (Cd (cnt l) least (k + 1) = if least ≤ cnt l k then (Cd (cnt l) least k).put (kz k) (vz (cnt l k)) else Cd (cnt l) least k) := ⟨rfl⟩
      clear hat hwf
      generalize cnt l k = z at HAT HWF HCd
      have hc1 : wr.cell? ⟨w.heap.size, 0, none⟩ = some (.slice A l.length c) := (blk_cell HI.out.b1 0).trans rfl
      go_wp2_with fail
      clear hc1
      refine (profile_At.calls A c l k 0 z r2 r3 r4 _ (Kd.C_below HR.out HI.out.below) hc HAT.out).mono ?_
      rintro e w1 ⟨rfl, hb⟩
      replace HI : Aside0 (Hw w A l.length c (Cd (cnt l) least k) k w1) := ⟨⟨blk_below HI.out.b1 hb, blk_below HI.out.b3 hb, own_below HI.out.own hb, below_step HI.out.below hb⟩⟩
      clear hb
      have hc3 : w1.cell? ⟨w.heap.size + 1 + 1, 0, none⟩ = some (.map (some (w.heap.size + 1))) := (blk_cell HI.out.b3 0).trans rfl
      go_wp2_with (first
        | (at_mapUpdate; refine wpList_mapUpdate_own _ rfl _ _ _ 118 rfl 3 2 keyed3 Tryz.underlying118 _ (w.heap.size + 1) k _ rfl HI.out.own (by unfold maxLen; omega) _ _ _ rfl rfl hkey _ [] (plainElem_int Tryz.underlying2 HWF.out) ?_; intro w2 hown2 hgrow2; have HO2 := Aside0.mk hown2; have HG2 := Aside0.mk hgrow2; clear hown2 hgrow2)
        | go_in)
      · go_roundw
        case rel =>
          refine ⟨k + 1, by omega, by go_num, ⟨⟨blk_grown HI.out.b1 HG2.out (by simp), blk_grown HI.out.b3 HG2.out (by simp), ?_, HI.out.below.grown HG2.out HI.out.below.size (fun j hj => by cases hj; omega)⟩⟩⟩
          rw [HCd.out, if_pos (by omega)]
          exact HO2.out
        case measure => simp [intOf]; omega
      · go_roundw
        case rel =>
          refine ⟨k + 1, by omega, by go_num, ⟨⟨HI.out.b1, HI.out.b3, ?_, HI.out.below⟩⟩⟩
          rw [HCd.out, if_neg (by omega)]
          exact HI.out.own.mono (Nat.le_succ k)
        case measure => simp [intOf]; omega
    · obtain rfl : k = l.length := by omega
      have hAt := Cd_at (cnt l) least
      have hSz := Cd_size (cnt l) least l.length
      have hAt2 := fun x => hAt x l.length
      clear hAt
      generalize hDD : Cd (cnt l) least l.length = D at HI HP hSz hAt2
      clear hDD
      generalize val (cnt l) least l.length = cc at HS hAt2
      have HAt := Aside0.mk hAt2
      clear hAt2
      have cK : Calls Tryz.prog 59 #[.map (some (w.heap.size + 1))] wr fun e w' => e = .returned (.func (.func 109) #[] #[.pointer (some ⟨wr.heap.size, 0, none⟩)]) ∧ w' = wr.alloc (.cells #[.map (some (w.heap.size + 1))] 118) :=
        callsIn_wide.1 (AnyZI.keys_in Tryz.hotKeys Fence.wide 5 trivial rfl (some (w.heap.size + 1)) wr)
      have hown1 : (wr.alloc (.cells #[.map (some (w.heap.size + 1))] 118)).ownsMap Tryz.prog 3 (plainElem Tryz.prog 2) (w.heap.size + 1) l.length D := HI.out.own.alloc _
      have hseq : SeqGives Fence.wide 2 Tryz.prog 109 #[.pointer (some ⟨wr.heap.size, 0, none⟩)] encZ (fun ss => ss.Perm (intKeys D)) (Maps.size D) (wr.alloc (.cells #[.map (some (w.heap.size + 1))] 118)) :=
        AnyZI.keys_gives (ρ := Tryz.hotKeys_ren) { Tryz.hotKeys with } Fence.wide _ trivial rfl (by omega) wr.heap.size (w.heap.size + 1) l.length D _ (by simp) ((blk_cell (blk_new _ _) 0).trans rfl) hown1
      have hwfs := intKeys_wf hown1 Tryz.underlying3
      have h3 := blk_alloc HI.out.b3 (.cells #[.map (some (w.heap.size + 1))] 118)
      have cS := sorted_calls 109 #[.pointer (some ⟨wr.heap.size, 0, none⟩)] (enters_of Tryz.func109 (by kernel_rfl) rfl) (fun ss => ss.Perm (intKeys D)) (Maps.size D) (by unfold maxLen; omega) (by omega) (fun ss hss x hx => hwfs x (hss.mem_iff.1 hx)) (w.heap.size + 1 + 1) (w.heap.size + 1) l.length D cc HAt.out _ hseq (blk_lt h3) ((blk_cell h3 0).trans rfl) hown1
      have HK := Aside0.mk cK
      have HSo := Aside0.mk cS
      clear cK cS hseq hown1 hwfs h3
      have hc3 : wr.cell? ⟨w.heap.size + 1 + 1, 0, none⟩ = some (.map (some (w.heap.size + 1))) := (blk_cell HI.out.b3 0).trans rfl
      go_wp2_with (first
        | (go_at_call 59; refine HK.out.mono ?_; rintro e w' ⟨rfl, rfl⟩)
        | (go_at_call 58; refine HSo.out.mono ?_; rintro e w3 ⟨v, ss, L2, rfl, hss, hp2, hs2, hrow, hb⟩; have HR3 := Aside0.mk hrow; have HB3 := Aside0.mk hb; have HP2 := Aside0.mk (hp2.trans hss); have HS2 := Aside0.mk hs2; have HL3 := Aside0.mk (hp2.length_eq); clear hss hp2 hs2 hrow hb))
      go_ret
      have e1 : L2 = L := List.Perm.eq_of_pairwise (le := fun x y => HotP.lt cc y x = false) (fun a b _ _ h1 h2 => total cc a b h2 h1) HS2.out (HS.out.imp (fun {a b} h => by
        cases h4 : HotP.lt cc b a with
        | false => rfl
        | true => exact absurd ((swo cc).trans _ _ _ h h4) (by rw [(swo cc).irrefl]; decide))) (HP2.out.trans HP.out.symm)
      have hB := below_step (below_alloc HI.out.below (.cells #[.map (some (w.heap.size + 1))] 118)) HB3.out
      have hrow := HR3.out
      rw [← HL3.out, e1] at hrow
      have hw0 : w.heap.size ≤ (wr.alloc (.cells #[.map (some (w.heap.size + 1))] 118)).heap.size := (below_alloc HI.out.below (.cells #[.map (some (w.heap.size + 1))] 118)).size
      exact ⟨_, rfl, ⟨fun k hk => Nat.le_trans hw0 (own_base hrow k hk), _, own_weaken hrow hw0, reps_ints _ _ _ _⟩, hB⟩
end Go.Proofs.YtjeaojolhdfpeaaGreat.HotW

namespace Go.Proofs.YtjeaojolhdfpeaaGreat.Nums
open Go.RowKit
set_option linter.unusedVariables false
set_option linter.unusedSimpArgs false

theorem xor_ones (a : Nat) (ha : a < 18446744073709551616) : a ^^^ 18446744073709551615 = 18446744073709551615 - a := by
  have h : (BitVec.ofNat 64 a ^^^ BitVec.allOnes 64).toNat = 18446744073709551615 - a := by
    rw [BitVec.xor_allOnes, BitVec.toNat_not, BitVec.toNat_ofNat, Nat.mod_eq_of_lt (by omega)]
  rw [BitVec.toNat_xor, BitVec.toNat_ofNat, BitVec.toNat_allOnes, Nat.mod_eq_of_lt (by omega)] at h
  exact h
/-- (x << 1) ^ (x >> 63). -/
theorem zig (x : Int) (hx : -9223372036854775808 ≤ x ∧ x ≤ 9223372036854775807) :
    bits .xor .u64 (IntKind.u64.wrap (IntKind.u64.wrap x * 2)) (IntKind.u64.wrap (x / 9223372036854775808)) = if x ≥ 0 then 2 * x else -2 * x - 1 := by
  rw [IntKind.wrap_u64, IntKind.wrap_u64, IntKind.wrap_u64]
  by_cases h : x ≥ 0
  · rw [if_pos h]
    obtain ⟨a, rfl⟩ := Int.eq_ofNat_of_zero_le h
    have e1 : ((a : Int) % 18446744073709551616 * 2) % 18446744073709551616 = ((2 * a : Nat) : Int) := by omega
    have e2 : ((a : Int) / 9223372036854775808) % 18446744073709551616 = ((0 : Nat) : Int) := by omega
    rw [e1, e2, u64_xor_nat _ _ (by omega) (by omega), Nat.xor_zero]
    omega
  · rw [if_neg h]
    obtain ⟨a, ha⟩ : ∃ a : Nat, (a : Int) = 2 * x + 18446744073709551616 := ⟨(2 * x + 18446744073709551616).toNat, by omega⟩
    have e1 : (x % 18446744073709551616 * 2) % 18446744073709551616 = (a : Int) := by omega
    have e2 : (x / 9223372036854775808) % 18446744073709551616 = ((18446744073709551615 : Nat) : Int) := by omega
    rw [e1, e2, u64_xor_nat _ _ (by omega) (by omega), xor_ones a (by omega)]
    omega
end Go.Proofs.YtjeaojolhdfpeaaGreat.Nums
