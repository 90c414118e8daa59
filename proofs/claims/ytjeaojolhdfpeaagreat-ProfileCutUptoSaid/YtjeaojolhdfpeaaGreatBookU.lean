/- Profile's book: Note, as its callers see it. -/
import Derived.Test.YtjeaojolhdfpeaaGreatBookO
namespace Go.Proofs.YtjeaojolhdfpeaaGreat.BookU
open Go.RowKit Go.Maps Go.Proofs.YtjeaojolhdfpeaaGreatW.PrintWords Go.Proofs.YtjeaojolhdfpeaaGreatW.PrintLast Go.Proofs.YtjeaojolhdfpeaaGreatW.PrintMore
open Go.Proofs.YtjeaojolhdfpeaaGreat.PProfileCut Go.Proofs.YtjeaojolhdfpeaaGreat.BookK Go.Proofs.YtjeaojolhdfpeaaGreat.BookS Go.Proofs.YtjeaojolhdfpeaaGreat.BookB Go.Proofs.YtjeaojolhdfpeaaGreat.BookN Go.Proofs.YtjeaojolhdfpeaaGreat.BookO
set_option linter.unusedVariables false
set_option linter.unusedSimpArgs false

/-- What a call of Note leaves. -/
def Noted (W : World) (S : Nat → Prop) (bp : Nat) (F : List (List S51)) (N : Nat) (e : Ending) (w' : World) : Prop :=
  e = .returned (.tuple #[]) ∧ ∃ S', Bk w' S' bp F N ∧ Turn W w' S ∧ ∀ k, S' k → S k ∨ W.heap.size ≤ k
/-- The spot at place (i, j) has been found, or made, in block q. -/
structure TL (W : World) (S : Nat → Prop) (bp mp : Nat) (A : Option Addr) (c : Nat) (F : List (List S51)) (i j : Nat) (N q : Nat) (D1 : DataW Unit) (S1 : Nat → Prop) (W1 : World) : Prop where
  at_ : BkAt W1 S1 bp mp A c D1 F N
  hq : ∀ z, D1.atKey (kp i j) z = pz q
  turn : Turn W W1 S
  sub : ∀ k, S1 k → S k ∨ W.heap.size ≤ k
  blk : W1.heap[q]? = some (.cells (spc (gt F i j)) 87 (0, 0))
  own : S1 q

theorem st_same {F : List (List S51)} {i j : Nat} {s : S51} (h : InR F i j) (e : gt F i j = s) : st F i j s = F := by
  refine rows_ext len_st (fun a ha => ?_) (fun a b hab => ?_)
  · rw [rw_st h.1]
    split
    · rename_i e2
      rw [e2, List.length_set]
    · rfl
  · rw [gt_st h]
    split
    · rename_i e2
      rw [e2.1, e2.2, e]
    · rfl
def r17_8_T : Bool × List (List Nat × List Nat) := (true, [([], []), ([0], [0]), ([1], [1]), ([2], [2]), ([], []), ([4], [4]), ([3, 5], [3, 5]), ([0, 0, 1, 2, 3, 4, 5, 6], [0]), ([7, 0, 1, 2, 3, 4, 5, 6], [7]), ([8, 6, 5, 0, 1, 2, 3, 4, 5, 6], [6, 8])])
def r17_8_B : List Nat := [0, 1, 3, 7, 0, 16, 63, 127, 255, 511]
theorem r17_8_tab : rtab .any (opsOf Tryz.f17 8) = r17_8_T := by kernel_rfl
theorem r17_8_bits : waitsOk r17_8_T.2 r17_8_B = true := by kernel_rfl
def r17_9_T : Bool × List (List Nat × List Nat) := (true, [([], []), ([0], [0]), ([1], [1]), ([2], [2]), ([], []), ([4], [4]), ([3, 5], [3, 5]), ([0, 0, 1, 2, 3, 4, 5, 6], [0]), ([7, 0, 1, 2, 3, 4, 5, 6], [7]), ([8, 6, 5, 0, 1, 2, 3, 4, 5, 6], [6, 8])])
def r17_9_B : List Nat := [0, 1, 3, 7, 0, 16, 63, 127, 255, 511]
theorem r17_9_tab : rtab .any (opsOf Tryz.f17 9) = r17_9_T := by kernel_rfl
theorem r17_9_bits : waitsOk r17_9_T.2 r17_9_B = true := by kernel_rfl
set_option maxHeartbeats 8000000 in
set_option maxRecDepth 100000 in
theorem note_calls (bp N : Nat) (S : Nat → Prop) (F : List (List S51)) (fn pc : Int) (A3 : Option Addr) (c3 : Nat) (l3 : List S48) (callee : Int) (W : World) (hB : Bk W S bp F N) (hr3 : ∀ W', Kept W W' S → Kd.C k48 W' A3 l3.length l3) (hc3 : l3.length ≤ c3) (hl3 : l3.length ≤ 4611686018427387904) (hN : N < 1099511627776) (hrg : ∀ i j, -9223372036854775808 ≤ (gt F i j).f0 ∧ (gt F i j).f0 ≤ 9223372036854775807) :
    Calls Tryz.prog 17 #[.pointer (some ⟨bp, 0, none⟩), .int .i64 fn, .int .i64 pc, .slice A3 l3.length c3, .int .i64 callee] W (Noted W S bp (noteF F fn pc l3 callee) (N + 1)) := by
  obtain ⟨mp, A, c, D, hBk⟩ := hB
  have HBk := Aside0.mk hBk
  have HR3 := Aside0.mk hr3
  clear hBk hr3
  have hc0 : W.cell? ⟨bp, 0, none⟩ = some (.slice A F.length c) := (blk_cell HBk.out.hb 0).trans rfl
  have hc1 : W.cell? ⟨bp, 1, none⟩ = some (.map (some mp)) := (blk_cell HBk.out.hb 1).trans rfl
  have out : noteF F fn pc l3 callee = F → Aside0 (Noted W S bp (noteF F fn pc l3 callee) (N + 1) (.returned (.tuple #[])) W) := fun e => ⟨by
    rw [e]
    exact ⟨rfl, S, ⟨mp, A, c, D, HBk.out.raise (Nat.le_succ N)⟩, Turn.refl _ _, fun k hk => .inl hk⟩⟩
  have HOut := Aside0.mk out
  clear out
  by_cases h1 : fn < 0
  · have HO := HOut.out (by unfold noteF; rw [if_neg (fun h => by omega)])
    have b1 : decide (fn < 0) = true := decide_eq_true h1
    generalize noteF F fn pc l3 callee = G at HO ⊢
    clear HOut h1
    go_enter Tryz.func17, Tryz.ntmps17
    go_wp2_with fail
    go_end0
    exact HO.out
  · have b1 : decide (fn < 0) = false := decide_eq_false h1
    by_cases h2 : fn ≥ (F.length : Int)
    · have HO := HOut.out (by unfold noteF; rw [if_neg (fun h => by omega)])
      have b2 : decide ((F.length : Int) ≤ fn) = true := decide_eq_true h2
      generalize noteF F fn pc l3 callee = G at HO ⊢
      clear HOut h1 h2
      go_enter Tryz.func17, Tryz.ntmps17
      go_wp2_with fail
      go_end0
      exact HO.out
    · have b2 : decide ((F.length : Int) ≤ fn) = false := decide_eq_false h2
      by_cases h3 : pc < 0
      · have HO := HOut.out (by unfold noteF; rw [if_neg (fun h => by omega)])
        have b3 : decide (pc < 0) = true := decide_eq_true h3
        generalize noteF F fn pc l3 callee = G at HO ⊢
        clear HOut h1 h2 h3
        go_enter Tryz.func17, Tryz.ntmps17
        go_wp2_with fail
        go_end0
        exact HO.out
      · have b3 : decide (pc < 0) = false := decide_eq_false h3
        obtain ⟨i, rfl⟩ : ∃ i : Nat, fn = (i : Int) := ⟨fn.toNat, by omega⟩
        obtain ⟨j, rfl⟩ : ∃ j : Nat, pc = (j : Int) := ⟨pc.toNat, by omega⟩
        have hi : i < F.length := by omega
        obtain ⟨ad, rfl, hs⟩ := Kd.at_int (Kd.R_reads' HBk.out.sizes).2.2 (i : Int) (by omega) (by simp; omega)
        have hrd : rd (F.map fun r => (r.length : Int)) (i : Int) = ((rw_ F i).length : Int) := by
          simp [rd, List.getD_eq_getElem?_getD, hi, rw_]
        rw [hrd] at hs
        simp only [Int.toNat_natCast] at hs
        clear hrd
        have hbi : decide ((i : Int) < (F.length : Int)) = true := decide_eq_true (by omega)
        have n2 : decide (F.length ≤ i) = false := decide_eq_false (by omega)
        have hin0 : (0 : Int) ≤ (i : Int) := by omega
        have hin1 : (i : Int) < (F.length : Int) := by omega
        by_cases h4 : (j : Int) ≥ ((rw_ F i).length : Int)
        · have HO := HOut.out (by unfold noteF; simp only [Int.toNat_natCast]; rw [if_neg (fun h => by omega)])
          have n4 : decide ((rw_ F i).length ≤ j) = true := decide_eq_true (by omega)
          generalize noteF F (i : Int) (j : Int) l3 callee = G at HO ⊢
          clear HOut h1 h2 h3 h4
          go_enter Tryz.func17, Tryz.ntmps17
          go_wp2_with fail
          go_end0
          exact HO.out
        · have n4 : decide ((rw_ F i).length ≤ j) = false := decide_eq_false (by omega)
          have hin : InR F i j := ⟨hi, by omega⟩
          have hG : noteF F (i : Int) (j : Int) l3 callee = st F i j (spN (gt F i j) l3 callee) := by
            unfold noteF
            simp only [Int.toNat_natCast]
            rw [if_pos ⟨by omega, by omega, by omega, by omega⟩]
          rw [hG]
          clear hG HOut h1 h2 h3 h4
          obtain ⟨Q, hQ⟩ : ∃ Q : Ending → World → Prop, Q = Noted W S bp (st F i j (spN (gt F i j) l3 callee)) (N + 1) := ⟨_, rfl⟩
          rw [← hQ]
          have HQ := Aside0.mk hQ
          clear hQ
          obtain ⟨v, ps, hrun, hv⟩ := HBk.out.own.lookup keyed Tryz.underlying77 (zero120 W) (show rp (.pointer none) = some (pz (-1), []) from rfl) (keyOf_mk (i : Int) (j : Int) (HBk.out.i64 hin).1 (HBk.out.i64 hin).2)
          have HIN := Aside0.mk hin
          rcases HBk.out.spots i j hin with hab | ⟨q, hp1, hp2, hp3, hp4⟩
          case' inl =>
            have hv2 : v = .pointer none := by
              rcases rp_inv hv with ⟨e, _⟩ | ⟨q, e, e2⟩
              · exact e
              · exfalso
                rw [hab.1] at e2
                have e3 := congrArg Prod.fst e2
                simp only at e3
                injection e3 with e3
                injection e3 with _ e3
                omega
            subst hv2
            have HAB := Aside0.mk hab
            clear hab hv
            have hkey := keyOf_mk (i : Int) (j : Int) (HBk.out.i64 hin).1 (HBk.out.i64 hin).2
            have hown := HBk.out.own.alloc (.cells #[.int .i64 0, .int .u16 0, .int .u16 0, .int .i64 0] 87)
            have hc1b : (W.alloc (.cells #[.int .i64 0, .int .u16 0, .int .u16 0, .int .i64 0] 87)).cell? ⟨bp, 1, none⟩ = some (.map (some mp)) := (blk_cell (blk_alloc HBk.out.hb _) 1).trans rfl
            clear hin
            go_enter Tryz.func17, Tryz.ntmps17
            go_wp2_with (first
              | (at_mapUpdate; refine wpList_mapUpdate_own _ rfl _ _ _ 77 rfl 90 80 keyed Tryz.underlying77 rp mp N D rfl hown (by unfold maxLen; omega) _ _ _ rfl rfl hkey (pz ((W.heap.size : Nat) : Int)) [] rfl ?_; intro w7 hown7 hgrow7; have HO7 := Aside0.mk hown7; have HG7 := Aside0.mk hgrow7; clear hown7 hgrow7; refine Aside0.out (p := _) ?_)
              | go_in)
            obtain ⟨D1, S1, HT⟩ : ∃ D1 S1, Aside0 (TL W S bp mp (some ad) c F i j (N + 1) W.heap.size D1 S1 w7) := ⟨D.put (kp i j) (pz ((W.heap.size : Nat) : Int)), fun k => (S k ∧ k < W.heap.size) ∨ k = W.heap.size, ⟨by
              have t0 : Turn W (W.alloc (.cells #[.int .i64 0, .int .u16 0, .int .u16 0, .int .i64 0] 87)) (fun _ => False) := Turn.alloc _ _ _
              have tg : Turn (W.alloc (.cells #[.int .i64 0, .int .u16 0, .int .u16 0, .int .i64 0] 87)) w7 (fun k => k = mp) := Turn.of_grown HG7.out (fun k e => by cases e; rfl)
              have hb := HBk.out.shrink.turn t0 (fun _ _ h => h)
              have hnew : (W.alloc (.cells #[.int .i64 0, .int .u16 0, .int .u16 0, .int .i64 0] 87)).heap[W.heap.size]? = some (.cells (spc z51) 87 (0, 0)) := blk_new _ _
              have hmp := HBk.out.own.lt
              have hp := hb.put HIN.out HAB.out.2.1 (s := z51) hnew (fun e => by have := e.2; omega) HO7.out HG7.out
              rw [st_same HIN.out HAB.out.2.2] at hp
              have hD : IsMap D := by
                obtain ⟨es, _, _, _, _, hD⟩ := HBk.out.own
                exact ⟨_, hD⟩
              refine ⟨hp, fun z => atKey_put_same hD (by simp [WideAt.IsKeyLit, kp]) _ _, (t0.mono (fun _ h => h.elim)).then_ tg (fun k e => .inl (by subst e; exact HBk.out.mS)), fun k hk => ?_, ?_, .inr rfl⟩
              · rcases hk with hk | hk
                · exact .inl hk.1
                · exact .inr (Nat.le_of_eq hk.symm)
              · rw [HAB.out.2.2]
                exact tg.heap hnew (by omega)⟩⟩
            refine Aside0.mk ?_
            clear HO7 HG7 HAB hc1b hkey hown
            generalize hqe : W.heap.size = q at HT ⊢
            have HQE := Aside0.mk hqe
            clear hqe
          case' inr =>
            have hv2 : v = .pointer (some ⟨q, 0, none⟩) := by
              rcases rp_inv hv with ⟨e, e2⟩ | ⟨q2, e, e2⟩
              · exfalso
                rw [hp2] at e2
                have e3 := congrArg Prod.fst e2
                simp only at e3
                injection e3 with e3
                injection e3 with _ e3
                omega
              · rw [hp2] at e2
                have e3 := congrArg Prod.fst e2
                simp only at e3
                injection e3 with e3
                injection e3 with _ e3
                rw [e]
                have : q2 = q := by omega
                rw [this]
            subst hv2
            obtain ⟨D1, S1, HT⟩ : ∃ D1 S1, Aside0 (TL W S bp mp (some ad) c F i j (N + 1) q D1 S1 W) := ⟨D, S, ⟨HBk.out.raise (Nat.le_succ N), hp2, Turn.refl _ _, fun k hk => .inl hk, hp4, hp3⟩⟩
            clear hv hp1 hp2 hp3 hp4 hin
            go_enter Tryz.func17, Tryz.ntmps17
            go_upto_region 5 with fail
            generalize hw7 : W = w7
            replace HT : Aside0 (TL W S bp mp (some ad) c F i j (N + 1) q D1 S1 w7) := by
              rw [← hw7]
              exact HT
            clear hw7
          all_goals
            clear hc0 hc1 hs hbi hin0 hin1 b1 b2 b3 n2 n4 hrun hi
          all_goals
            obtain ⟨s, hsg⟩ : ∃ s, s = gt F i j := ⟨_, rfl⟩
            have HBL := Aside0.mk HT.out.blk
            rw [← hsg] at HBL HQ
            have HRG : Aside0 (-9223372036854775808 ≤ s.f0 ∧ s.f0 ≤ 9223372036854775807) := ⟨by rw [hsg]; exact hrg i j⟩
            clear hsg
          -- TAIL BEGINS
          all_goals
            have hcell : w7.cell? ⟨q, 0, none⟩ = some (.int .i64 s.f0) := (blk_cell HBL.out 0).trans rfl
            have hfroz := blk_frozen HBL.out 0
            rcases Int.lt_or_le s.f0 9223372036854775807 with hmx | hmx
            · have hcn : cnP s.f0 = wrap64 (s.f0 + 1) := by
                have h2 := HRG.out
                unfold cnP
                rw [if_pos hmx, w64 (by omega) (by omega)]
              have HCN := Aside0.mk hcn
              clear hcn
              go_wp2_with (first
                | (go_at_call 42; refine (load_calls q s.f0 _ hcell).mono ?_; rintro e w' ⟨rfl, hw⟩; rw [hw]; clear hw)
                | (go_at_call 35; refine (store_calls q _ _ _ hcell hfroz).mono ?_; rintro e w' ⟨rfl, hw⟩; rw [hw]; clear hw))
              have HVT := Aside0.mk (Turn.set w7 ⟨q, 0, none⟩ (.int .i64 (wrap64 (s.f0 + 1))) (S := fun k => k = q) rfl)
              have HBV : Aside0 ((w7.setCell ⟨q, 0, none⟩ (.int .i64 (wrap64 (s.f0 + 1)))).heap[q]? = some (.cells #[.int .i64 (cnP s.f0), .int .u16 s.f1, .int .u16 s.f2, .int .i64 s.f3] 87 (0, 0))) := ⟨blk_put HBL.out 0 _ (by rw [HCN.out]; rfl)⟩
              clear HCN
              generalize w7.setCell ⟨q, 0, none⟩ (.int .i64 (wrap64 (s.f0 + 1))) = V0 at HVT HBV ⊢
              clear hcell hfroz hmx
              replace HVT := Aside0.mk (HVT.out.then_ (Turn.of_below (below_drew (Below.refl _ V0)) (fun k => k = q)) (fun k hk => .inl hk))
              replace HBV : Aside0 (V0.drew.heap[q]? = some (.cells #[.int .i64 (cnP s.f0), .int .u16 s.f1, .int .u16 s.f2, .int .i64 s.f3] 87 (0, 0))) := ⟨HBV.out⟩
              have HR5 : Aside0 (Kd.C k48 V0.drew A3 l3.length l3) := ⟨HR3.out _ (HT.out.turn.then_ HVT.out (fun k hk => by subst hk; exact HT.out.sub _ HT.out.own)).kept⟩
              refine start_ (n := 10) (S := fun w' => w'.cell? ⟨q, 1, none⟩ = some (.int .u16 s.f1)) (ds := [9]) #[false, false, false, false, false, false, false, false, false, false] (by kernel_rfl) rfl rfl ((blk_cell HBV.out 1).trans rfl) (fun hHeld => ?_)
              refine with_tabW r17_8_tab r17_8_bits (fun HT_ HW_ => ?_)
              generalize World.drew V0 = V1 at HVT HBV HR5 hHeld ⊢
              refine pure_ (i := 0) (N := some 70) (v := ?_) (a' := ?_) #[true, false, false, false, false, false, false, false, false, false] rfl rfl (any_of HT_.out (by kernel_rfl)) (fun _ _ _ h => h) (Or.inl ⟨by rfl, ?_⟩) ?_ ?_
              rotate_left
              · intro w'
                go_simp
                with_reducible rfl
              rotate_left
              · simp only [Act.put, List.setIfInBounds_toArray, List.set_cons_zero, List.set_cons_succ, i64_w, i32_w]
                rfl
              refine pure_ (i := 1) (N := some 71) (v := ?_) (a' := ?_) #[true, true, false, false, false, false, false, false, false, false] rfl rfl (any_of HT_.out (by kernel_rfl)) (fun _ _ _ h => h) (Or.inl ⟨by rfl, ?_⟩) ?_ ?_
              rotate_left
              · intro w'
                go_simp
                with_reducible rfl
              rotate_left
              · simp only [Act.put, List.setIfInBounds_toArray, List.set_cons_zero, List.set_cons_succ, i64_w, i32_w]
                rfl
              refine pure_ (i := 2) (N := some 72) (v := ?_) (a' := ?_) #[true, true, true, false, false, false, false, false, false, false] rfl rfl (any_of HT_.out (by kernel_rfl)) (fun _ _ _ h => h) (Or.inl ⟨by rfl, ?_⟩) ?_ ?_
              rotate_left
              · intro w'
                go_simp
                with_reducible rfl
              rotate_left
              · simp only [Act.put, List.setIfInBounds_toArray, List.set_cons_zero, List.set_cons_succ, i64_w, i32_w]
                rfl
              refine pure_ (i := 4) (N := some 74) (v := ?_) (a' := ?_) #[true, true, true, false, true, false, false, false, false, false] rfl rfl (any_of HT_.out (by kernel_rfl)) (fun _ _ _ h => h) (Or.inl ⟨by rfl, ?_⟩) ?_ ?_
              rotate_left
              · intro w'
                go_simp
                with_reducible rfl
              rotate_left
              · simp only [Act.put, List.setIfInBounds_toArray, List.set_cons_zero, List.set_cons_succ, i64_w, i32_w]
                rfl
              refine take_ (i := 3) (N := some 73) (v := ?_) (a' := ?_) #[true, true, true, true, true, false, false, false, false, false] rfl rfl (take_ofW HT_.out HW_.out (by kernel_rfl)) (fun _ _ _ h => h) (Or.inl ⟨by rfl, ?_⟩) hHeld ?_ ?_
              rotate_left
              · rintro w' s0
                go_simp
                with_reducible rfl
              rotate_left
              · simp only [Act.put, List.setIfInBounds_toArray, List.set_cons_zero, List.set_cons_succ, i64_w, i32_w]
                rfl
              refine one_ (i := 5) (N := some 75) #[true, true, true, true, true, true, false, false, false, false] rfl rfl (one_of HT_.out (by kernel_rfl)) (by decide) (fun K hK => ?_)
              refine goes_ Tryz.func43 (by kernel_rfl) rfl #[.slice A3 l3.length c3, .int .i64 1] (by rfl) rfl rfl (by (try simp only [List.map_toArray, List.map_cons, List.map_nil]); first | done | rfl) ?_
              refine (profile_bit.calls A3 c3 l3 1 (bitP l3 1) V1 HR5.out hc3 (bit_code l3 1 (by omega) hl3 (by omega))).mono ?_
              rintro e w3 ⟨rfl, ⟨⟨m3, rfl⟩⟩⟩
              refine ⟨_, rfl, ?_⟩
              have HB3 : Aside0 ((V1.drewN m3).heap[q]? = some (.cells #[.int .i64 (cnP s.f0), .int .u16 s.f1, .int .u16 s.f2, .int .i64 s.f3] 87 (0, 0))) := ⟨HBV.out⟩
              refine hK.out _ _ ((blk_cell HB3.out 1).trans rfl) (fun hHeld => ?_)
              clear hK K
              refine norm_ (a' := ?_) ?_ ?_
              rotate_left
              · show Act.put _ (some 75) _ = _
                simp only [Act.put, List.setIfInBounds_toArray, List.set_cons_zero, List.set_cons_succ, i64_w, i32_w]
                rfl
              refine pure_ (i := 6) (N := some 76) (v := ?_) (a' := ?_) #[true, true, true, true, true, true, true, false, false, false] rfl rfl (any_of HT_.out (by kernel_rfl)) (fun _ _ _ h => h) (Or.inl ⟨by rfl, ?_⟩) ?_ ?_
              rotate_left
              · intro w'
                go_simp
                with_reducible rfl
              rotate_left
              · simp only [Act.put, List.setIfInBounds_toArray, List.set_cons_zero, List.set_cons_succ, i64_w, i32_w]
                rfl
              refine pure_ (i := 7) (N := some 77) (v := ?_) (a' := ?_) #[true, true, true, true, true, true, true, true, false, false] rfl rfl (any_of HT_.out (by kernel_rfl)) (fun _ _ _ h => h) (Or.inl ⟨by rfl, ?_⟩) ?_ ?_
              rotate_left
              · intro w'
                go_simp
                with_reducible rfl
              rotate_left
              · simp only [Act.put, List.setIfInBounds_toArray, List.set_cons_zero, List.set_cons_succ, i64_w, i32_w]
                rfl
              refine pure_ (i := 8) (N := some 78) (v := ?_) (a' := ?_) #[true, true, true, true, true, true, true, true, true, false] rfl rfl (any_of HT_.out (by kernel_rfl)) (fun _ _ _ h => h) (Or.inl ⟨by rfl, ?_⟩) ?_ ?_
              rotate_left
              · intro w'
                go_simp
                with_reducible rfl
              rotate_left
              · simp only [Act.put, List.setIfInBounds_toArray, List.set_cons_zero, List.set_cons_succ, i64_w, i32_w]
                rfl
              refine last_ (i := 9) (N := none) #[true, true, true, true, true, true, true, true, true, true] rfl rfl (one_of HT_.out (by kernel_rfl)) (by decide) (fun K hK => ?_)
              have hs1 : (V1.drewN m3).cell? ⟨q, 1, none⟩ = some (.int .u16 s.f1) := (blk_cell HB3.out 1).trans rfl
              have hfs1 := blk_frozen HB3.out 1
              refine skip_ (w1 := ?_) (by rfl) rfl ?_ ?_
              rotate_left
              · go_simp
                rfl
              refine hK.out _ _ ?_
              clear hK K
              refine done_ (done_of HT_.out (by kernel_rfl)) ?_
              clear hs1 hfs1 hHeld
              have HT8 := Aside0.mk ((HVT.out.then_ (Turn.of_below (pw_below_drewN (Below.refl _ V1) m3) (fun k => k = q)) (fun k hk => .inl hk)).then_ (Turn.set (V1.drewN m3) ⟨q, 1, none⟩ (.int .u16 (Go.bits .or .u16 s.f1 (bitP l3 1))) (S := fun k => k = q) rfl) (fun k hk => .inl hk))
              have HB8 := Aside0.mk (blk_put HB3.out 1 (.int .u16 (Go.bits .or .u16 s.f1 (bitP l3 1))) (cs' := #[.int .i64 (cnP s.f0), .int .u16 (Go.bits .or .u16 s.f1 (bitP l3 1)), .int .u16 s.f2, .int .i64 s.f3]) rfl)
              clear HB3 HBV HVT HR5
              generalize (V1.drewN m3).setCell ⟨q, 1, none⟩ (.int .u16 (Go.bits .or .u16 s.f1 (bitP l3 1))) = V2 at HT8 HB8 ⊢
              go_wp2_with fail
              replace HT8 := Aside0.mk (HT8.out.then_ (Turn.of_below (below_drew (Below.refl _ V2)) (fun k => k = q)) (fun k hk => .inl hk))
              replace HB8 : Aside0 (V2.drew.heap[q]? = some (.cells #[.int .i64 (cnP s.f0), .int .u16 (Go.bits .or .u16 s.f1 (bitP l3 1)), .int .u16 s.f2, .int .i64 s.f3] 87 (0, 0))) := ⟨HB8.out⟩
              have HR5 : Aside0 (Kd.C k48 V2.drew A3 l3.length l3) := ⟨HR3.out _ (HT.out.turn.then_ HT8.out (fun k hk => by subst hk; exact HT.out.sub _ HT.out.own)).kept⟩
              refine start_ (n := 10) (S := fun w' => w'.cell? ⟨q, 2, none⟩ = some (.int .u16 s.f2)) (ds := [9]) #[false, false, false, false, false, false, false, false, false, false] (by kernel_rfl) rfl rfl ((blk_cell HB8.out 2).trans rfl) (fun hHeld => ?_)
              refine with_tabW r17_9_tab r17_9_bits (fun HT_ HW_ => ?_)
              generalize World.drew V2 = V3 at HT8 HB8 HR5 hHeld ⊢
              refine pure_ (i := 0) (N := some 79) (v := ?_) (a' := ?_) #[true, false, false, false, false, false, false, false, false, false] rfl rfl (any_of HT_.out (by kernel_rfl)) (fun _ _ _ h => h) (Or.inl ⟨by rfl, ?_⟩) ?_ ?_
              rotate_left
              · intro w'
                go_simp
                with_reducible rfl
              rotate_left
              · simp only [Act.put, List.setIfInBounds_toArray, List.set_cons_zero, List.set_cons_succ, i64_w, i32_w]
                rfl
              refine pure_ (i := 1) (N := some 80) (v := ?_) (a' := ?_) #[true, true, false, false, false, false, false, false, false, false] rfl rfl (any_of HT_.out (by kernel_rfl)) (fun _ _ _ h => h) (Or.inl ⟨by rfl, ?_⟩) ?_ ?_
              rotate_left
              · intro w'
                go_simp
                with_reducible rfl
              rotate_left
              · simp only [Act.put, List.setIfInBounds_toArray, List.set_cons_zero, List.set_cons_succ, i64_w, i32_w]
                rfl
              refine pure_ (i := 2) (N := some 81) (v := ?_) (a' := ?_) #[true, true, true, false, false, false, false, false, false, false] rfl rfl (any_of HT_.out (by kernel_rfl)) (fun _ _ _ h => h) (Or.inl ⟨by rfl, ?_⟩) ?_ ?_
              rotate_left
              · intro w'
                go_simp
                with_reducible rfl
              rotate_left
              · simp only [Act.put, List.setIfInBounds_toArray, List.set_cons_zero, List.set_cons_succ, i64_w, i32_w]
                rfl
              refine pure_ (i := 4) (N := some 83) (v := ?_) (a' := ?_) #[true, true, true, false, true, false, false, false, false, false] rfl rfl (any_of HT_.out (by kernel_rfl)) (fun _ _ _ h => h) (Or.inl ⟨by rfl, ?_⟩) ?_ ?_
              rotate_left
              · intro w'
                go_simp
                with_reducible rfl
              rotate_left
              · simp only [Act.put, List.setIfInBounds_toArray, List.set_cons_zero, List.set_cons_succ, i64_w, i32_w]
                rfl
              refine take_ (i := 3) (N := some 82) (v := ?_) (a' := ?_) #[true, true, true, true, true, false, false, false, false, false] rfl rfl (take_ofW HT_.out HW_.out (by kernel_rfl)) (fun _ _ _ h => h) (Or.inl ⟨by rfl, ?_⟩) hHeld ?_ ?_
              rotate_left
              · rintro w' s0
                go_simp
                with_reducible rfl
              rotate_left
              · simp only [Act.put, List.setIfInBounds_toArray, List.set_cons_zero, List.set_cons_succ, i64_w, i32_w]
                rfl
              refine one_ (i := 5) (N := some 84) #[true, true, true, true, true, true, false, false, false, false] rfl rfl (one_of HT_.out (by kernel_rfl)) (by decide) (fun K hK => ?_)
              refine goes_ Tryz.func43 (by kernel_rfl) rfl #[.slice A3 l3.length c3, .int .i64 2] (by rfl) rfl rfl (by (try simp only [List.map_toArray, List.map_cons, List.map_nil]); first | done | rfl) ?_
              refine (profile_bit.calls A3 c3 l3 2 (bitP l3 2) V3 HR5.out hc3 (bit_code l3 2 (by omega) hl3 (by omega))).mono ?_
              rintro e w4 ⟨rfl, ⟨⟨m4, rfl⟩⟩⟩
              refine ⟨_, rfl, ?_⟩
              have HB4 : Aside0 ((V3.drewN m4).heap[q]? = some (.cells #[.int .i64 (cnP s.f0), .int .u16 (Go.bits .or .u16 s.f1 (bitP l3 1)), .int .u16 s.f2, .int .i64 s.f3] 87 (0, 0))) := ⟨HB8.out⟩
              refine hK.out _ _ ((blk_cell HB4.out 2).trans rfl) (fun hHeld => ?_)
              clear hK K
              refine norm_ (a' := ?_) ?_ ?_
              rotate_left
              · show Act.put _ (some 84) _ = _
                simp only [Act.put, List.setIfInBounds_toArray, List.set_cons_zero, List.set_cons_succ, i64_w, i32_w]
                rfl
              refine pure_ (i := 6) (N := some 85) (v := ?_) (a' := ?_) #[true, true, true, true, true, true, true, false, false, false] rfl rfl (any_of HT_.out (by kernel_rfl)) (fun _ _ _ h => h) (Or.inl ⟨by rfl, ?_⟩) ?_ ?_
              rotate_left
              · intro w'
                go_simp
                with_reducible rfl
              rotate_left
              · simp only [Act.put, List.setIfInBounds_toArray, List.set_cons_zero, List.set_cons_succ, i64_w, i32_w]
                rfl
              refine pure_ (i := 7) (N := some 86) (v := ?_) (a' := ?_) #[true, true, true, true, true, true, true, true, false, false] rfl rfl (any_of HT_.out (by kernel_rfl)) (fun _ _ _ h => h) (Or.inl ⟨by rfl, ?_⟩) ?_ ?_
              rotate_left
              · intro w'
                go_simp
                with_reducible rfl
              rotate_left
              · simp only [Act.put, List.setIfInBounds_toArray, List.set_cons_zero, List.set_cons_succ, i64_w, i32_w]
                rfl
              refine pure_ (i := 8) (N := some 87) (v := ?_) (a' := ?_) #[true, true, true, true, true, true, true, true, true, false] rfl rfl (any_of HT_.out (by kernel_rfl)) (fun _ _ _ h => h) (Or.inl ⟨by rfl, ?_⟩) ?_ ?_
              rotate_left
              · intro w'
                go_simp
                with_reducible rfl
              rotate_left
              · simp only [Act.put, List.setIfInBounds_toArray, List.set_cons_zero, List.set_cons_succ, i64_w, i32_w]
                rfl
              refine last_ (i := 9) (N := none) #[true, true, true, true, true, true, true, true, true, true] rfl rfl (one_of HT_.out (by kernel_rfl)) (by decide) (fun K hK => ?_)
              have hs1 : (V3.drewN m4).cell? ⟨q, 2, none⟩ = some (.int .u16 s.f2) := (blk_cell HB4.out 2).trans rfl
              have hfs1 := blk_frozen HB4.out 2
              refine skip_ (w1 := ?_) (by rfl) rfl ?_ ?_
              rotate_left
              · go_simp
                rfl
              refine hK.out _ _ ?_
              clear hK K
              refine done_ (done_of HT_.out (by kernel_rfl)) ?_
              clear hs1 hfs1 hHeld
              have HT9 := Aside0.mk ((HT8.out.then_ (Turn.of_below (pw_below_drewN (Below.refl _ V3) m4) (fun k => k = q)) (fun k hk => .inl hk)).then_ (Turn.set (V3.drewN m4) ⟨q, 2, none⟩ (.int .u16 (Go.bits .or .u16 s.f2 (bitP l3 2))) (S := fun k => k = q) rfl) (fun k hk => .inl hk))
              have HB9 := Aside0.mk (blk_put HB4.out 2 (.int .u16 (Go.bits .or .u16 s.f2 (bitP l3 2))) (cs' := #[.int .i64 (cnP s.f0), .int .u16 (Go.bits .or .u16 s.f1 (bitP l3 1)), .int .u16 (Go.bits .or .u16 s.f2 (bitP l3 2)), .int .i64 s.f3]) rfl)
              clear HB4 HB8 HT8 HR5
              generalize (V3.drewN m4).setCell ⟨q, 2, none⟩ (.int .u16 (Go.bits .or .u16 s.f2 (bitP l3 2))) = V4 at HT9 HB9 ⊢
              have hs3 : V4.cell? ⟨q, 3, none⟩ = some (.int .i64 s.f3) := (blk_cell HB9.out 3).trans rfl
              go_wp2_with fail
              refine (profile_callees.calls s.f3 callee (clP s.f3 callee) _ (callees_code _ _)).mono ?_
              rintro e w5 ⟨rfl, ⟨⟨m5, rfl⟩⟩⟩
              replace HT9 := Aside0.mk (HT9.out.then_ (Turn.of_below (pw_below_drewN (Below.refl _ V4) m5) (fun k => k = q)) (fun k hk => .inl hk))
              replace HB9 : Aside0 ((V4.drewN m5).heap[q]? = some (.cells #[.int .i64 (cnP s.f0), .int .u16 (Go.bits .or .u16 s.f1 (bitP l3 1)), .int .u16 (Go.bits .or .u16 s.f2 (bitP l3 2)), .int .i64 s.f3] 87 (0, 0))) := ⟨HB9.out⟩
              clear hs3
              have hs3 : (V4.drewN m5).cell? ⟨q, 3, none⟩ = some (.int .i64 s.f3) := (blk_cell HB9.out 3).trans rfl
              have hf3 := blk_frozen HB9.out 3
              go_wp2_with fail
              go_end0
              rw [HQ.out]
              have hE := blk_put HB9.out 3 (.int .i64 (clP s.f3 callee)) (cs' := spc (spN s l3 callee)) rfl
              have tE := HT9.out.then_ (Turn.set (V4.drewN m5) ⟨q, 3, none⟩ (.int .i64 (clP s.f3 callee)) (S := fun k => k = q) rfl) (fun k hk => .inl hk)
              exact ⟨rfl, S1, ⟨mp, some ad, c, D1, HT.out.at_.upd HIN.out HT.out.hq tE hE⟩, HT.out.turn.then_ tE (fun k hk => by subst hk; exact HT.out.sub _ HT.out.own), HT.out.sub⟩
            · have hcn : cnP s.f0 = s.f0 := by
                unfold cnP
                rw [if_neg (by omega)]
              have HCN := Aside0.mk hcn
              clear hcn
              go_wp2_with (first
                | (go_at_call 42; refine (load_calls q s.f0 _ hcell).mono ?_; rintro e w' ⟨rfl, hw⟩; rw [hw]; clear hw))
              have HVT := Aside0.mk (Turn.refl w7 (fun k => k = q))
              have HBV : Aside0 (w7.heap[q]? = some (.cells #[.int .i64 (cnP s.f0), .int .u16 s.f1, .int .u16 s.f2, .int .i64 s.f3] 87 (0, 0))) := ⟨by rw [HCN.out]; exact HBL.out⟩
              clear HCN
              obtain ⟨V0, hV0⟩ : ∃ V0, V0 = w7 := ⟨_, rfl⟩
              replace HVT : Aside0 (Turn w7 V0 (fun k => k = q)) := ⟨by rw [hV0]; exact HVT.out⟩
              rw [← hV0] at HBV ⊢
              clear hV0
              clear hcell hfroz hmx
              replace HVT := Aside0.mk (HVT.out.then_ (Turn.of_below (below_drew (Below.refl _ V0)) (fun k => k = q)) (fun k hk => .inl hk))
              replace HBV : Aside0 (V0.drew.heap[q]? = some (.cells #[.int .i64 (cnP s.f0), .int .u16 s.f1, .int .u16 s.f2, .int .i64 s.f3] 87 (0, 0))) := ⟨HBV.out⟩
              have HR5 : Aside0 (Kd.C k48 V0.drew A3 l3.length l3) := ⟨HR3.out _ (HT.out.turn.then_ HVT.out (fun k hk => by subst hk; exact HT.out.sub _ HT.out.own)).kept⟩
              refine start_ (n := 10) (S := fun w' => w'.cell? ⟨q, 1, none⟩ = some (.int .u16 s.f1)) (ds := [9]) #[false, false, false, false, false, false, false, false, false, false] (by kernel_rfl) rfl rfl ((blk_cell HBV.out 1).trans rfl) (fun hHeld => ?_)
              refine with_tabW r17_8_tab r17_8_bits (fun HT_ HW_ => ?_)
              generalize World.drew V0 = V1 at HVT HBV HR5 hHeld ⊢
              refine pure_ (i := 0) (N := some 70) (v := ?_) (a' := ?_) #[true, false, false, false, false, false, false, false, false, false] rfl rfl (any_of HT_.out (by kernel_rfl)) (fun _ _ _ h => h) (Or.inl ⟨by rfl, ?_⟩) ?_ ?_
              rotate_left
              · intro w'
                go_simp
                with_reducible rfl
              rotate_left
              · simp only [Act.put, List.setIfInBounds_toArray, List.set_cons_zero, List.set_cons_succ, i64_w, i32_w]
                rfl
              refine pure_ (i := 1) (N := some 71) (v := ?_) (a' := ?_) #[true, true, false, false, false, false, false, false, false, false] rfl rfl (any_of HT_.out (by kernel_rfl)) (fun _ _ _ h => h) (Or.inl ⟨by rfl, ?_⟩) ?_ ?_
              rotate_left
              · intro w'
                go_simp
                with_reducible rfl
              rotate_left
              · simp only [Act.put, List.setIfInBounds_toArray, List.set_cons_zero, List.set_cons_succ, i64_w, i32_w]
                rfl
              refine pure_ (i := 2) (N := some 72) (v := ?_) (a' := ?_) #[true, true, true, false, false, false, false, false, false, false] rfl rfl (any_of HT_.out (by kernel_rfl)) (fun _ _ _ h => h) (Or.inl ⟨by rfl, ?_⟩) ?_ ?_
              rotate_left
              · intro w'
                go_simp
                with_reducible rfl
              rotate_left
              · simp only [Act.put, List.setIfInBounds_toArray, List.set_cons_zero, List.set_cons_succ, i64_w, i32_w]
                rfl
              refine pure_ (i := 4) (N := some 74) (v := ?_) (a' := ?_) #[true, true, true, false, true, false, false, false, false, false] rfl rfl (any_of HT_.out (by kernel_rfl)) (fun _ _ _ h => h) (Or.inl ⟨by rfl, ?_⟩) ?_ ?_
              rotate_left
              · intro w'
                go_simp
                with_reducible rfl
              rotate_left
              · simp only [Act.put, List.setIfInBounds_toArray, List.set_cons_zero, List.set_cons_succ, i64_w, i32_w]
                rfl
              refine take_ (i := 3) (N := some 73) (v := ?_) (a' := ?_) #[true, true, true, true, true, false, false, false, false, false] rfl rfl (take_ofW HT_.out HW_.out (by kernel_rfl)) (fun _ _ _ h => h) (Or.inl ⟨by rfl, ?_⟩) hHeld ?_ ?_
              rotate_left
              · rintro w' s0
                go_simp
                with_reducible rfl
              rotate_left
              · simp only [Act.put, List.setIfInBounds_toArray, List.set_cons_zero, List.set_cons_succ, i64_w, i32_w]
                rfl
              refine one_ (i := 5) (N := some 75) #[true, true, true, true, true, true, false, false, false, false] rfl rfl (one_of HT_.out (by kernel_rfl)) (by decide) (fun K hK => ?_)
              refine goes_ Tryz.func43 (by kernel_rfl) rfl #[.slice A3 l3.length c3, .int .i64 1] (by rfl) rfl rfl (by (try simp only [List.map_toArray, List.map_cons, List.map_nil]); first | done | rfl) ?_
              refine (profile_bit.calls A3 c3 l3 1 (bitP l3 1) V1 HR5.out hc3 (bit_code l3 1 (by omega) hl3 (by omega))).mono ?_
              rintro e w3 ⟨rfl, ⟨⟨m3, rfl⟩⟩⟩
              refine ⟨_, rfl, ?_⟩
              have HB3 : Aside0 ((V1.drewN m3).heap[q]? = some (.cells #[.int .i64 (cnP s.f0), .int .u16 s.f1, .int .u16 s.f2, .int .i64 s.f3] 87 (0, 0))) := ⟨HBV.out⟩
              refine hK.out _ _ ((blk_cell HB3.out 1).trans rfl) (fun hHeld => ?_)
              clear hK K
              refine norm_ (a' := ?_) ?_ ?_
              rotate_left
              · show Act.put _ (some 75) _ = _
                simp only [Act.put, List.setIfInBounds_toArray, List.set_cons_zero, List.set_cons_succ, i64_w, i32_w]
                rfl
              refine pure_ (i := 6) (N := some 76) (v := ?_) (a' := ?_) #[true, true, true, true, true, true, true, false, false, false] rfl rfl (any_of HT_.out (by kernel_rfl)) (fun _ _ _ h => h) (Or.inl ⟨by rfl, ?_⟩) ?_ ?_
              rotate_left
              · intro w'
                go_simp
                with_reducible rfl
              rotate_left
              · simp only [Act.put, List.setIfInBounds_toArray, List.set_cons_zero, List.set_cons_succ, i64_w, i32_w]
                rfl
              refine pure_ (i := 7) (N := some 77) (v := ?_) (a' := ?_) #[true, true, true, true, true, true, true, true, false, false] rfl rfl (any_of HT_.out (by kernel_rfl)) (fun _ _ _ h => h) (Or.inl ⟨by rfl, ?_⟩) ?_ ?_
              rotate_left
              · intro w'
                go_simp
                with_reducible rfl
              rotate_left
              · simp only [Act.put, List.setIfInBounds_toArray, List.set_cons_zero, List.set_cons_succ, i64_w, i32_w]
                rfl
              refine pure_ (i := 8) (N := some 78) (v := ?_) (a' := ?_) #[true, true, true, true, true, true, true, true, true, false] rfl rfl (any_of HT_.out (by kernel_rfl)) (fun _ _ _ h => h) (Or.inl ⟨by rfl, ?_⟩) ?_ ?_
              rotate_left
              · intro w'
                go_simp
                with_reducible rfl
              rotate_left
              · simp only [Act.put, List.setIfInBounds_toArray, List.set_cons_zero, List.set_cons_succ, i64_w, i32_w]
                rfl
              refine last_ (i := 9) (N := none) #[true, true, true, true, true, true, true, true, true, true] rfl rfl (one_of HT_.out (by kernel_rfl)) (by decide) (fun K hK => ?_)
              have hs1 : (V1.drewN m3).cell? ⟨q, 1, none⟩ = some (.int .u16 s.f1) := (blk_cell HB3.out 1).trans rfl
              have hfs1 := blk_frozen HB3.out 1
              refine skip_ (w1 := ?_) (by rfl) rfl ?_ ?_
              rotate_left
              · go_simp
                rfl
              refine hK.out _ _ ?_
              clear hK K
              refine done_ (done_of HT_.out (by kernel_rfl)) ?_
              clear hs1 hfs1 hHeld
              have HT8 := Aside0.mk ((HVT.out.then_ (Turn.of_below (pw_below_drewN (Below.refl _ V1) m3) (fun k => k = q)) (fun k hk => .inl hk)).then_ (Turn.set (V1.drewN m3) ⟨q, 1, none⟩ (.int .u16 (Go.bits .or .u16 s.f1 (bitP l3 1))) (S := fun k => k = q) rfl) (fun k hk => .inl hk))
              have HB8 := Aside0.mk (blk_put HB3.out 1 (.int .u16 (Go.bits .or .u16 s.f1 (bitP l3 1))) (cs' := #[.int .i64 (cnP s.f0), .int .u16 (Go.bits .or .u16 s.f1 (bitP l3 1)), .int .u16 s.f2, .int .i64 s.f3]) rfl)
              clear HB3 HBV HVT HR5
              generalize (V1.drewN m3).setCell ⟨q, 1, none⟩ (.int .u16 (Go.bits .or .u16 s.f1 (bitP l3 1))) = V2 at HT8 HB8 ⊢
              go_wp2_with fail
              replace HT8 := Aside0.mk (HT8.out.then_ (Turn.of_below (below_drew (Below.refl _ V2)) (fun k => k = q)) (fun k hk => .inl hk))
              replace HB8 : Aside0 (V2.drew.heap[q]? = some (.cells #[.int .i64 (cnP s.f0), .int .u16 (Go.bits .or .u16 s.f1 (bitP l3 1)), .int .u16 s.f2, .int .i64 s.f3] 87 (0, 0))) := ⟨HB8.out⟩
              have HR5 : Aside0 (Kd.C k48 V2.drew A3 l3.length l3) := ⟨HR3.out _ (HT.out.turn.then_ HT8.out (fun k hk => by subst hk; exact HT.out.sub _ HT.out.own)).kept⟩
              refine start_ (n := 10) (S := fun w' => w'.cell? ⟨q, 2, none⟩ = some (.int .u16 s.f2)) (ds := [9]) #[false, false, false, false, false, false, false, false, false, false] (by kernel_rfl) rfl rfl ((blk_cell HB8.out 2).trans rfl) (fun hHeld => ?_)
              refine with_tabW r17_9_tab r17_9_bits (fun HT_ HW_ => ?_)
              generalize World.drew V2 = V3 at HT8 HB8 HR5 hHeld ⊢
              refine pure_ (i := 0) (N := some 79) (v := ?_) (a' := ?_) #[true, false, false, false, false, false, false, false, false, false] rfl rfl (any_of HT_.out (by kernel_rfl)) (fun _ _ _ h => h) (Or.inl ⟨by rfl, ?_⟩) ?_ ?_
              rotate_left
              · intro w'
                go_simp
                with_reducible rfl
              rotate_left
              · simp only [Act.put, List.setIfInBounds_toArray, List.set_cons_zero, List.set_cons_succ, i64_w, i32_w]
                rfl
              refine pure_ (i := 1) (N := some 80) (v := ?_) (a' := ?_) #[true, true, false, false, false, false, false, false, false, false] rfl rfl (any_of HT_.out (by kernel_rfl)) (fun _ _ _ h => h) (Or.inl ⟨by rfl, ?_⟩) ?_ ?_
              rotate_left
              · intro w'
                go_simp
                with_reducible rfl
              rotate_left
              · simp only [Act.put, List.setIfInBounds_toArray, List.set_cons_zero, List.set_cons_succ, i64_w, i32_w]
                rfl
              refine pure_ (i := 2) (N := some 81) (v := ?_) (a' := ?_) #[true, true, true, false, false, false, false, false, false, false] rfl rfl (any_of HT_.out (by kernel_rfl)) (fun _ _ _ h => h) (Or.inl ⟨by rfl, ?_⟩) ?_ ?_
              rotate_left
              · intro w'
                go_simp
                with_reducible rfl
              rotate_left
              · simp only [Act.put, List.setIfInBounds_toArray, List.set_cons_zero, List.set_cons_succ, i64_w, i32_w]
                rfl
              refine pure_ (i := 4) (N := some 83) (v := ?_) (a' := ?_) #[true, true, true, false, true, false, false, false, false, false] rfl rfl (any_of HT_.out (by kernel_rfl)) (fun _ _ _ h => h) (Or.inl ⟨by rfl, ?_⟩) ?_ ?_
              rotate_left
              · intro w'
                go_simp
                with_reducible rfl
              rotate_left
              · simp only [Act.put, List.setIfInBounds_toArray, List.set_cons_zero, List.set_cons_succ, i64_w, i32_w]
                rfl
              refine take_ (i := 3) (N := some 82) (v := ?_) (a' := ?_) #[true, true, true, true, true, false, false, false, false, false] rfl rfl (take_ofW HT_.out HW_.out (by kernel_rfl)) (fun _ _ _ h => h) (Or.inl ⟨by rfl, ?_⟩) hHeld ?_ ?_
              rotate_left
              · rintro w' s0
                go_simp
                with_reducible rfl
              rotate_left
              · simp only [Act.put, List.setIfInBounds_toArray, List.set_cons_zero, List.set_cons_succ, i64_w, i32_w]
                rfl
              refine one_ (i := 5) (N := some 84) #[true, true, true, true, true, true, false, false, false, false] rfl rfl (one_of HT_.out (by kernel_rfl)) (by decide) (fun K hK => ?_)
              refine goes_ Tryz.func43 (by kernel_rfl) rfl #[.slice A3 l3.length c3, .int .i64 2] (by rfl) rfl rfl (by (try simp only [List.map_toArray, List.map_cons, List.map_nil]); first | done | rfl) ?_
              refine (profile_bit.calls A3 c3 l3 2 (bitP l3 2) V3 HR5.out hc3 (bit_code l3 2 (by omega) hl3 (by omega))).mono ?_
              rintro e w4 ⟨rfl, ⟨⟨m4, rfl⟩⟩⟩
              refine ⟨_, rfl, ?_⟩
              have HB4 : Aside0 ((V3.drewN m4).heap[q]? = some (.cells #[.int .i64 (cnP s.f0), .int .u16 (Go.bits .or .u16 s.f1 (bitP l3 1)), .int .u16 s.f2, .int .i64 s.f3] 87 (0, 0))) := ⟨HB8.out⟩
              refine hK.out _ _ ((blk_cell HB4.out 2).trans rfl) (fun hHeld => ?_)
              clear hK K
              refine norm_ (a' := ?_) ?_ ?_
              rotate_left
              · show Act.put _ (some 84) _ = _
                simp only [Act.put, List.setIfInBounds_toArray, List.set_cons_zero, List.set_cons_succ, i64_w, i32_w]
                rfl
              refine pure_ (i := 6) (N := some 85) (v := ?_) (a' := ?_) #[true, true, true, true, true, true, true, false, false, false] rfl rfl (any_of HT_.out (by kernel_rfl)) (fun _ _ _ h => h) (Or.inl ⟨by rfl, ?_⟩) ?_ ?_
              rotate_left
              · intro w'
                go_simp
                with_reducible rfl
              rotate_left
              · simp only [Act.put, List.setIfInBounds_toArray, List.set_cons_zero, List.set_cons_succ, i64_w, i32_w]
                rfl
              refine pure_ (i := 7) (N := some 86) (v := ?_) (a' := ?_) #[true, true, true, true, true, true, true, true, false, false] rfl rfl (any_of HT_.out (by kernel_rfl)) (fun _ _ _ h => h) (Or.inl ⟨by rfl, ?_⟩) ?_ ?_
              rotate_left
              · intro w'
                go_simp
                with_reducible rfl
              rotate_left
              · simp only [Act.put, List.setIfInBounds_toArray, List.set_cons_zero, List.set_cons_succ, i64_w, i32_w]
                rfl
              refine pure_ (i := 8) (N := some 87) (v := ?_) (a' := ?_) #[true, true, true, true, true, true, true, true, true, false] rfl rfl (any_of HT_.out (by kernel_rfl)) (fun _ _ _ h => h) (Or.inl ⟨by rfl, ?_⟩) ?_ ?_
              rotate_left
              · intro w'
                go_simp
                with_reducible rfl
              rotate_left
              · simp only [Act.put, List.setIfInBounds_toArray, List.set_cons_zero, List.set_cons_succ, i64_w, i32_w]
                rfl
              refine last_ (i := 9) (N := none) #[true, true, true, true, true, true, true, true, true, true] rfl rfl (one_of HT_.out (by kernel_rfl)) (by decide) (fun K hK => ?_)
              have hs1 : (V3.drewN m4).cell? ⟨q, 2, none⟩ = some (.int .u16 s.f2) := (blk_cell HB4.out 2).trans rfl
              have hfs1 := blk_frozen HB4.out 2
              refine skip_ (w1 := ?_) (by rfl) rfl ?_ ?_
              rotate_left
              · go_simp
                rfl
              refine hK.out _ _ ?_
              clear hK K
              refine done_ (done_of HT_.out (by kernel_rfl)) ?_
              clear hs1 hfs1 hHeld
              have HT9 := Aside0.mk ((HT8.out.then_ (Turn.of_below (pw_below_drewN (Below.refl _ V3) m4) (fun k => k = q)) (fun k hk => .inl hk)).then_ (Turn.set (V3.drewN m4) ⟨q, 2, none⟩ (.int .u16 (Go.bits .or .u16 s.f2 (bitP l3 2))) (S := fun k => k = q) rfl) (fun k hk => .inl hk))
              have HB9 := Aside0.mk (blk_put HB4.out 2 (.int .u16 (Go.bits .or .u16 s.f2 (bitP l3 2))) (cs' := #[.int .i64 (cnP s.f0), .int .u16 (Go.bits .or .u16 s.f1 (bitP l3 1)), .int .u16 (Go.bits .or .u16 s.f2 (bitP l3 2)), .int .i64 s.f3]) rfl)
              clear HB4 HB8 HT8 HR5
              generalize (V3.drewN m4).setCell ⟨q, 2, none⟩ (.int .u16 (Go.bits .or .u16 s.f2 (bitP l3 2))) = V4 at HT9 HB9 ⊢
              have hs3 : V4.cell? ⟨q, 3, none⟩ = some (.int .i64 s.f3) := (blk_cell HB9.out 3).trans rfl
              go_wp2_with fail
              refine (profile_callees.calls s.f3 callee (clP s.f3 callee) _ (callees_code _ _)).mono ?_
              rintro e w5 ⟨rfl, ⟨⟨m5, rfl⟩⟩⟩
              replace HT9 := Aside0.mk (HT9.out.then_ (Turn.of_below (pw_below_drewN (Below.refl _ V4) m5) (fun k => k = q)) (fun k hk => .inl hk))
              replace HB9 : Aside0 ((V4.drewN m5).heap[q]? = some (.cells #[.int .i64 (cnP s.f0), .int .u16 (Go.bits .or .u16 s.f1 (bitP l3 1)), .int .u16 (Go.bits .or .u16 s.f2 (bitP l3 2)), .int .i64 s.f3] 87 (0, 0))) := ⟨HB9.out⟩
              clear hs3
              have hs3 : (V4.drewN m5).cell? ⟨q, 3, none⟩ = some (.int .i64 s.f3) := (blk_cell HB9.out 3).trans rfl
              have hf3 := blk_frozen HB9.out 3
              go_wp2_with fail
              go_end0
              rw [HQ.out]
              have hE := blk_put HB9.out 3 (.int .i64 (clP s.f3 callee)) (cs' := spc (spN s l3 callee)) rfl
              have tE := HT9.out.then_ (Turn.set (V4.drewN m5) ⟨q, 3, none⟩ (.int .i64 (clP s.f3 callee)) (S := fun k => k = q) rfl) (fun k hk => .inl hk)
              exact ⟨rfl, S1, ⟨mp, some ad, c, D1, HT.out.at_.upd HIN.out HT.out.hq tE hE⟩, HT.out.turn.then_ tE (fun k hk => by subst hk; exact HT.out.sub _ HT.out.own), HT.out.sub⟩
          -- TAIL ENDS
end Go.Proofs.YtjeaojolhdfpeaaGreat.BookU
