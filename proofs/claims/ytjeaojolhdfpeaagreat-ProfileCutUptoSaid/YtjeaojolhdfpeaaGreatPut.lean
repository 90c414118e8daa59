/- profile.put lays down a spot's form: by a walk of its text. -/
import Derived.Test.YtjeaojolhdfpeaaGreatWriter
import Derived.Test.YtjeaojolhdfpeaaGreatFormRef
import Derived.LoopN
namespace Go.Proofs.YtjeaojolhdfpeaaGreat.Put
open Go.RowKit Go.Proofs.YtjeaojolhdfpeaaGreatW.PrintWords Go.Proofs.YtjeaojolhdfpeaaGreatW.PrintLast Go.Proofs.YtjeaojolhdfpeaaGreatW.PrintMore
open Go.Proofs.YtjeaojolhdfpeaaGreat.PProfileCut Go.Proofs.YtjeaojolhdfpeaaGreat.Writer Go.Proofs.YtjeaojolhdfpeaaGreat.Form
set_option linter.unusedVariables false
set_option linter.unusedSimpArgs false

def b2 (b : Bool) (n : Int) : Int := if b then n else 0
/-- What the flags are behind so many rounds. -/
def fl (b0 b1 b2' b3 : Bool) : Nat → Int
  | 0 => 0
  | 1 => b2 b0 1
  | 2 => b2 b0 1 + b2 b1 2
  | 3 => b2 b0 1 + b2 b1 2 + b2 b2' 4
  | _ => b2 b0 1 + b2 b1 2 + b2 b2' 4 + b2 b3 8

def pts (x0 x1 x2 : Int) : Nat → List Int
  | 0 => []
  | 1 => partB x0
  | 2 => partB x0 ++ partB x1
  | _ => partB x0 ++ partB x1 ++ partB x2
theorem pts_length (x0 x1 x2 : Int) (k : Nat) (h0 : x0 < 18446744073709551616) (h1 : x1 < 18446744073709551616) (h2 : x2 < 18446744073709551616) : (pts x0 x1 x2 k).length ≤ 30 := by
  have a0 := partB_length x0 h0
  have a1 := partB_length x1 h1
  have a2 := partB_length x2 h2
  rcases k with _ | _ | _ | k <;> simp only [pts, List.length_nil, List.length_append] <;> omega

set_option maxHeartbeats 8000000 in
set_option maxRecDepth 100000 in
theorem put (w0 w : World) (g : Nat) (bs : List Int) (s : S51) (hW : Wr w0 w g bs) (h0 : 0 ≤ s.f0) (hs : Rg s) (hl : bs.length ≤ 140737488350000) :
    Calls Tryz.prog 50 #[.pointer (some ⟨g, 0, none⟩), .agg #[.int .i64 s.f0, .int .u16 s.f1, .int .u16 s.f2, .int .i64 s.f3]] w fun e w' => e = .returned (.tuple #[]) ∧ Wr w0 w' g (bs ++ spotForm s) ∧ Stands g w w' := by
  obtain ⟨x0, x1, x2, x3⟩ := s
  obtain ⟨b0, e0⟩ : ∃ b, (x0 != 0) = b := ⟨_, rfl⟩
  obtain ⟨b1, e1⟩ : ∃ b, (x1 != 0) = b := ⟨_, rfl⟩
  obtain ⟨b2', e2⟩ : ∃ b, (x2 != 0) = b := ⟨_, rfl⟩
  obtain ⟨b3, e3⟩ : ∃ b, (x3 != 0) = b := ⟨_, rfl⟩
  have HW := Aside0.mk hW
  clear hW
  simp only at h0 hs
  have i0 : ∀ w, (Instr.index 157 (.agg #[.bool b0, .bool b1, .bool b2', .bool b3]) (.int .i64 0)).run Tryz.prog w = .ok (.bool b0) w := fun _ => by kernel_rfl
  have i1 : ∀ w, (Instr.index 157 (.agg #[.bool b0, .bool b1, .bool b2', .bool b3]) (.int .i64 1)).run Tryz.prog w = .ok (.bool b1) w := fun _ => by kernel_rfl
  have i2 : ∀ w, (Instr.index 157 (.agg #[.bool b0, .bool b1, .bool b2', .bool b3]) (.int .i64 2)).run Tryz.prog w = .ok (.bool b2') w := fun _ => by kernel_rfl
  have i3 : ∀ w, (Instr.index 157 (.agg #[.bool b0, .bool b1, .bool b2', .bool b3]) (.int .i64 3)).run Tryz.prog w = .ok (.bool b3) w := fun _ => by kernel_rfl
  go_enter Tryz.func50, Tryz.ntmps50
  go_wp2_with fail
  have HW1 := Aside0.mk (HW.out.alloc (.cells #[.int .i64 x0, .int .u16 x1, .int .u16 x2, .int .i64 x3] 51))
  have BK : Aside0 ((w.alloc (.cells #[.int .i64 x0, .int .u16 x1, .int .u16 x2, .int .i64 x3] 51)).heap[w.heap.size]? = some (.cells #[.int .i64 x0, .int .u16 x1, .int .u16 x2, .int .i64 x3] 51 (0, 0))) := ⟨blk_new _ _⟩
  have HST := Aside0.mk (Stands.alloc g w (.cells #[.int .i64 x0, .int .u16 x1, .int .u16 x2, .int .i64 x3] 51))
  have HW0 := HW
  clear HW
  generalize w.alloc (.cells #[.int .i64 x0, .int .u16 x1, .int .u16 x2, .int .i64 x3] 51) = W1 at HW1 BK HST ⊢
  have HG : Aside0 (w.heap.size ≠ g) := ⟨fun h => by obtain ⟨v, hv, _⟩ := HW0.out.held; have := blk_lt hv; omega⟩
  generalize w.heap.size = gs at BK HG ⊢
  have E0 := Aside0.mk e0
  have E1 := Aside0.mk e1
  have E2 := Aside0.mk e2
  have E3 := Aside0.mk e3
  clear e0 e1 e2 e3
  go_loop [4, 22] (fun f i => ∃ k : Nat, k ≤ 4 ∧ i = .int .i64 k ∧ f = .int .u8 (fl b0 b1 b2' b3 k)) (fun _ i => 4 - (intOf i).toNat)
  case atStart => exact ⟨0, by omega, rfl, rfl⟩
  case round =>
    obtain ⟨k, hk, rfl, rfl⟩ := hrel
    by_cases h4 : k = 4
    · subst h4
      obtain ⟨f, hf⟩ : ∃ f, fl b0 b1 b2' b3 4 = f := ⟨_, rfl⟩
      have hfr : 0 ≤ f ∧ f ≤ 255 := by subst hf; cases b0 <;> cases b1 <;> cases b2' <;> cases b3 <;> simp [fl, b2]
      have HF := Aside0.mk hf
      rw [hf]
      clear hf
      obtain ⟨kb, hkb⟩ := bytes_one f hfr bs (by omega)
      go_wp2_with fail
      refine (Writer.byte w0 _ g bs (bs ++ [f]) f kb HW1.out hkb).mono ?_
      rintro e w2 ⟨rfl, hW2, hS2⟩
      have HW2 := Aside0.mk hW2
      have BK2 : Aside0 (w2.heap[gs]? = some (.cells #[.int .i64 x0, .int .u16 x1, .int .u16 x2, .int .i64 x3] 51 (0, 0))) := ⟨hS2.2 gs 51 _ HG.out (by decide) BK.out⟩
      have HS2 := Aside0.mk (HST.out.trans hS2)
      clear hW2 hS2 HW1 BK HST hkb
      have c0 : w2.cell? ⟨gs, 0, none⟩ = some (.int .i64 x0) := (blk_cell BK2.out 0).trans rfl
      have c1 : w2.cell? ⟨gs, 1, none⟩ = some (.int .u16 x1) := (blk_cell BK2.out 1).trans rfl
      have c2 : w2.cell? ⟨gs, 2, none⟩ = some (.int .u16 x2) := (blk_cell BK2.out 2).trans rfl
      have w0e : IntKind.u64.wrap x0 = x0 := by rw [IntKind.wrap_u64]; have := hs.1; simp only at this; omega
      have w1e : IntKind.u64.wrap x1 = x1 := by rw [IntKind.wrap_u64]; have := hs.2.1; simp only at this; omega
      have w2e : IntKind.u64.wrap x2 = x2 := by rw [IntKind.wrap_u64]; have := hs.2.2.1; simp only at this; omega
      have r0 : 0 ≤ x0 ∧ x0 ≤ 9223372036854775807 := ⟨h0, hs.1.2⟩
      have r1 : 0 ≤ x1 ∧ x1 ≤ 65535 := hs.2.1
      have r2 : 0 ≤ x2 ∧ x2 ≤ 65535 := hs.2.2.1
      have r3 : -9223372036854775808 ≤ x3 ∧ x3 ≤ 9223372036854775807 := hs.2.2.2
      go_wp2_with fail
      clear w0e w1e w2e c0 c1 c2 i0 i1 i2 i3
      have j0 : ∀ w, (Instr.index 159 (.agg #[.int .u64 x0, .int .u64 x1, .int .u64 x2]) (.int .i64 0)).run Tryz.prog w = .ok (.int .u64 x0) w := fun _ => by kernel_rfl
      have j1 : ∀ w, (Instr.index 159 (.agg #[.int .u64 x0, .int .u64 x1, .int .u64 x2]) (.int .i64 1)).run Tryz.prog w = .ok (.int .u64 x1) w := fun _ => by kernel_rfl
      have j2 : ∀ w, (Instr.index 159 (.agg #[.int .u64 x0, .int .u64 x1, .int .u64 x2]) (.int .i64 2)).run Tryz.prog w = .ok (.int .u64 x2) w := fun _ => by kernel_rfl
      go_loopw [45] (fun i wr => ∃ k : Nat, k ≤ 3 ∧ i = .int .i64 k ∧ Aside0 (Wr w0 wr g (bs ++ [f] ++ pts x0 x1 x2 k)) ∧ Aside0 (Stands g w wr) ∧ Aside0 (wr.heap[gs]? = some (.cells #[.int .i64 x0, .int .u16 x1, .int .u16 x2, .int .i64 x3] 51 (0, 0)))) (fun i _ => 3 - (intOf i).toNat)
      case atStart => exact ⟨0, by omega, rfl, ⟨by simpa [pts] using HW2.out⟩, HS2, BK2⟩
      case round =>
        clear HW2 HS2 BK2
        obtain ⟨k, hk, rfl, HW3, HS3, BK3⟩ := hrel
        by_cases h3 : k = 3
        · subst h3
          have c3 : wr.cell? ⟨gs, 3, none⟩ = some (.int .i64 x3) := (blk_cell BK3.out 3).trans rfl
          have hform : ∀ t, t = (if x3 = 0 then [] else uv (foldZ x3).toNat) → bs ++ [f] ++ pts x0 x1 x2 3 ++ t = bs ++ spotForm ⟨x0, x1, x2, x3⟩ := fun t ht => by
            rw [ht, ← HF.out]
            have hb : fl b0 b1 b2' b3 4 = flagsOf ⟨x0, x1, x2, x3⟩ := by
              rw [← E0.out, ← E1.out, ← E2.out, ← E3.out]
              simp only [fl, b2, flagsOf, bne_iff_ne, ne_eq, ite_not]
            rw [hb]
            simp only [spotForm, pts, List.append_assoc]
          have HFm := Aside0.mk hform
          clear hform
          by_cases hz : x3 = 0
          · have t : (x3 != 0) = false := by simp [hz]
            have HZ := Aside0.mk (HFm.out [] (by rw [if_pos hz]))
            clear hz
            go_wp2_with fail
            go_end0
            exact ⟨rfl, by have := HW3.out; rw [← HZ.out, List.append_nil]; exact this, HS3.out⟩
          · have t : (x3 != 0) = true := by simp [hz]
            have HZ := Aside0.mk (HFm.out (uv (foldZ x3).toNat) (by rw [if_neg hz]))
            clear hz
            have hfz := foldZ_range x3 r3
            obtain ⟨ku, hku⟩ := digits_some (foldZ x3).toNat (bs ++ [f] ++ pts x0 x1 x2 3) (by omega) (by have := pts_length x0 x1 x2 3 (by omega) (by omega) (by omega); simp only [List.length_append, List.length_singleton]; omega)
            rw [Int.toNat_of_nonneg hfz.1] at hku
            have HU : Aside0 (wire_digits_uint64.f ku (bs ++ [f] ++ pts x0 x1 x2 3) (if x3 ≥ 0 then 2 * x3 else -2 * x3 - 1) = some (bs ++ [f] ++ pts x0 x1 x2 3 ++ uv (foldZ x3).toNat)) := ⟨hku⟩
            clear hku hfz
            go_wp2_with (go_at_call 95; refine (Writer.int_ w0 _ g _ _ x3 ku HW3.out r3 HU.out).mono ?_; rintro e w4 ⟨rfl, hW4, hS4⟩; have HW4 := Aside0.mk hW4; have HS4 := Aside0.mk (HS3.out.trans hS4); clear hW4 hS4)
            go_end0
            exact ⟨rfl, by have := HW4.out; rw [HZ.out] at this; exact this, HS4.out⟩
        · rcases (show k = 0 ∨ k = 1 ∨ k = 2 by omega) with rfl | rfl | rfl
          · by_cases hz : x0 = 0
            · have t : (x0 != 0) = false := by simp [hz]
              have T := Aside0.mk hz
              clear hz
              go_wp2_with fail
              go_roundw
              case rel => exact ⟨1, by omega, rfl, ⟨by have := HW3.out; rw [show pts x0 x1 x2 1 = pts x0 x1 x2 0 by simp [pts, partB, T.out]]; exact this⟩, HS3, BK3⟩
              case measure => simp [intOf]
            · have t : (x0 != 0) = true := by simp [hz]
              have hT : pts x0 x1 x2 1 = pts x0 x1 x2 0 ++ uv x0.toNat := by simp [pts, partB, hz]
              have HT := Aside0.mk hT
              clear hz hT
              obtain ⟨ku, hku⟩ := digits_some x0.toNat (bs ++ [f] ++ pts x0 x1 x2 0) (by omega) (by have := pts_length x0 x1 x2 0 (by omega) (by omega) (by omega); simp only [List.length_append, List.length_singleton]; omega)
              rw [Int.toNat_of_nonneg (by omega)] at hku
              have HU := Aside0.mk hku
              clear hku
              go_wp2_with (go_at_call 48; refine (Writer.uint w0 _ g _ _ x0 ku HW3.out HU.out).mono ?_; rintro e w4 ⟨rfl, hW4, hS4⟩; have HW4 := Aside0.mk hW4; have HS4 := Aside0.mk (HS3.out.trans hS4); have BK4 : Aside0 (w4.heap[gs]? = some (.cells #[.int .i64 x0, .int .u16 x1, .int .u16 x2, .int .i64 x3] 51 (0, 0))) := ⟨hS4.2 gs 51 _ HG.out (by decide) BK3.out⟩; clear hW4 hS4)
              go_roundw
              case rel => exact ⟨1, by omega, rfl, ⟨by have := HW4.out; rw [HT.out, ← List.append_assoc]; exact this⟩, HS4, BK4⟩
              case measure => simp [intOf]
          · by_cases hz : x1 = 0
            · have t : (x1 != 0) = false := by simp [hz]
              have T := Aside0.mk hz
              clear hz
              go_wp2_with fail
              go_roundw
              case rel => exact ⟨2, by omega, rfl, ⟨by have := HW3.out; rw [show pts x0 x1 x2 2 = pts x0 x1 x2 1 by simp [pts, partB, T.out]]; exact this⟩, HS3, BK3⟩
              case measure => simp [intOf]
            · have t : (x1 != 0) = true := by simp [hz]
              have hT : pts x0 x1 x2 2 = pts x0 x1 x2 1 ++ uv x1.toNat := by simp [pts, partB, hz]
              have HT := Aside0.mk hT
              clear hz hT
              obtain ⟨ku, hku⟩ := digits_some x1.toNat (bs ++ [f] ++ pts x0 x1 x2 1) (by omega) (by have := pts_length x0 x1 x2 1 (by omega) (by omega) (by omega); simp only [List.length_append, List.length_singleton]; omega)
              rw [Int.toNat_of_nonneg (by omega)] at hku
              have HU := Aside0.mk hku
              clear hku
              go_wp2_with (go_at_call 48; refine (Writer.uint w0 _ g _ _ x1 ku HW3.out HU.out).mono ?_; rintro e w4 ⟨rfl, hW4, hS4⟩; have HW4 := Aside0.mk hW4; have HS4 := Aside0.mk (HS3.out.trans hS4); have BK4 : Aside0 (w4.heap[gs]? = some (.cells #[.int .i64 x0, .int .u16 x1, .int .u16 x2, .int .i64 x3] 51 (0, 0))) := ⟨hS4.2 gs 51 _ HG.out (by decide) BK3.out⟩; clear hW4 hS4)
              go_roundw
              case rel => exact ⟨2, by omega, rfl, ⟨by have := HW4.out; rw [HT.out, ← List.append_assoc]; exact this⟩, HS4, BK4⟩
              case measure => simp [intOf]
          · by_cases hz : x2 = 0
            · have t : (x2 != 0) = false := by simp [hz]
              have T := Aside0.mk hz
              clear hz
              go_wp2_with fail
              go_roundw
              case rel => exact ⟨3, by omega, rfl, ⟨by have := HW3.out; rw [show pts x0 x1 x2 3 = pts x0 x1 x2 2 by simp [pts, partB, T.out]]; exact this⟩, HS3, BK3⟩
              case measure => simp [intOf]
            · have t : (x2 != 0) = true := by simp [hz]
              have hT : pts x0 x1 x2 3 = pts x0 x1 x2 2 ++ uv x2.toNat := by simp [pts, partB, hz]
              have HT := Aside0.mk hT
              clear hz hT
              obtain ⟨ku, hku⟩ := digits_some x2.toNat (bs ++ [f] ++ pts x0 x1 x2 2) (by omega) (by have := pts_length x0 x1 x2 2 (by omega) (by omega) (by omega); simp only [List.length_append, List.length_singleton]; omega)
              rw [Int.toNat_of_nonneg (by omega)] at hku
              have HU := Aside0.mk hku
              clear hku
              go_wp2_with (go_at_call 48; refine (Writer.uint w0 _ g _ _ x2 ku HW3.out HU.out).mono ?_; rintro e w4 ⟨rfl, hW4, hS4⟩; have HW4 := Aside0.mk hW4; have HS4 := Aside0.mk (HS3.out.trans hS4); have BK4 : Aside0 (w4.heap[gs]? = some (.cells #[.int .i64 x0, .int .u16 x1, .int .u16 x2, .int .i64 x3] 51 (0, 0))) := ⟨hS4.2 gs 51 _ HG.out (by decide) BK3.out⟩; clear hW4 hS4)
              go_roundw
              case rel => exact ⟨3, by omega, rfl, ⟨by have := HW4.out; rw [HT.out, ← List.append_assoc]; exact this⟩, HS4, BK4⟩
              case measure => simp [intOf]
    · rcases (show k = 0 ∨ k = 1 ∨ k = 2 ∨ k = 3 by omega) with rfl | rfl | rfl | rfl
      · cases b0
        all_goals
          go_wp2_with fail
          go_round
          case rel => exact ⟨1, by omega, rfl, by cases b1 <;> cases b2' <;> cases b3 <;> kernel_rfl⟩
          case measure => simp [intOf]
      · cases b1
        all_goals
          go_wp2_with fail
          go_round
          case rel => exact ⟨2, by omega, rfl, by cases b0 <;> cases b2' <;> cases b3 <;> kernel_rfl⟩
          case measure => simp [intOf]
      · cases b2'
        all_goals
          go_wp2_with fail
          go_round
          case rel => exact ⟨3, by omega, rfl, by cases b0 <;> cases b1 <;> cases b3 <;> kernel_rfl⟩
          case measure => simp [intOf]
      · cases b3
        all_goals
          go_wp2_with fail
          go_round
          case rel => exact ⟨4, by omega, rfl, by cases b0 <;> cases b1 <;> cases b2' <;> kernel_rfl⟩
          case measure => simp [intOf]
end Go.Proofs.YtjeaojolhdfpeaaGreat.Put
