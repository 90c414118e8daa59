/- marked: the marks behind all lists of a handed code are where they were. -/
import Derived.Test.YtklknkfoafdgpaaLiveHandC
namespace Go.Proofs.Ytklknkfoafdgpaa.LiveMark
open Go.RowKit Go.Proofs.YtklknkfoafdgpaaW.PrintWords Go.Proofs.YtklknkfoafdgpaaW.PrintLast Go.Proofs.YtklknkfoafdgpaaW.PrintMore
open Go.Proofs.Ytklknkfoafdgpaa.PLiveKnown Go.Proofs.Ytklknkfoafdgpaa.LiveT Go.Proofs.Ytklknkfoafdgpaa.LiveB Go.Proofs.Ytklknkfoafdgpaa.LiveInv Go.Proofs.Ytklknkfoafdgpaa.LiveSet Go.Proofs.Ytklknkfoafdgpaa.LiveAhead Go.Proofs.Ytklknkfoafdgpaa.LiveEnd Go.Proofs.Ytklknkfoafdgpaa.LiveSettled Go.Proofs.Ytklknkfoafdgpaa.LiveCopied Go.Proofs.Ytklknkfoafdgpaa.LiveAft Go.Proofs.Ytklknkfoafdgpaa.LiveRunP Go.Proofs.Ytklknkfoafdgpaa.LiveSame Go.Proofs.Ytklknkfoafdgpaa.LiveFit Go.Proofs.Ytklknkfoafdgpaa.LiveEvt Go.Proofs.Ytklknkfoafdgpaa.LiveRefP Go.Proofs.Ytklknkfoafdgpaa.LiveHandP Go.Proofs.Ytklknkfoafdgpaa.LiveHandS Go.Proofs.Ytklknkfoafdgpaa.LiveHandB Go.Proofs.Ytklknkfoafdgpaa.LiveHandC
attribute [local go_sem high] eqA82
set_option linter.unusedVariables false
set_option linter.unusedSimpArgs false

/-- A list of a row of lists. -/
theorem rd_list {α : Type} {d : Kd α} {e n : Nat} {A : Option Addr} {W : World} {xs : List (List α)} (h : Kd.C (Kd.slice e d) W A n xs) (k : Nat) (hk : k < n) :
    ∃ ad B c, A = some ad ∧ W.cell? (ad.add k) = some (.slice B (xs.getD k []).length c) ∧ (xs.getD k []).length ≤ c ∧ Kd.C d W B (xs.getD k []).length (xs.getD k []) := by
  obtain ⟨ad, c, e, hcl, hK, hc⟩ := Kd.C_get h [] (k : Int) (by omega) (by omega)
  obtain ⟨B, cb, rfl, hl, hC⟩ := hK
  refine ⟨ad, B, cb, e, ?_, hl, hC⟩
  have h0 := hc 0 _ rfl
  simp only [Int.toNat_natCast] at h0
  rw [show k * (Kd.slice _ d).sz + 0 = k by show k * 1 + 0 = k; omega] at h0
  exact h0
theorem mem_osI {l : List S47} {x : List S82} (h : x ∈ osI l) : ∃ y, x = y ++ m82 := by
  simp only [osI, List.mem_flatMap, List.mem_cons, osOf, List.mem_map] at h
  obtain ⟨a, _, rfl | ⟨b, _, rfl⟩⟩ := h
  · exact ⟨_, rfl⟩
  · exact ⟨_, rfl⟩
theorem osA_at (l : List S43) (k : Nat) (hk : k < (osA l).length) : ∃ y, (osA l).getD k [] = y ++ m82 := by
  have h : (osA l).getD k [] ∈ osA l := by
    rw [List.getD_eq_getElem?_getD, List.getElem?_eq_getElem hk]
    exact List.getElem_mem hk
  unfold osA at h
  obtain ⟨b, _, hb⟩ := List.mem_flatMap.mp h
  exact mem_osI hb
theorem ssA_at (l : List S43) (k : Nat) (hk : k < (ssA l).length) : ∃ y, (ssA l).getD k [] = y ++ m78 := by
  have h : (ssA l).getD k [] ∈ ssA l := by
    rw [List.getD_eq_getElem?_getD, List.getElem?_eq_getElem hk]
    exact List.getElem_mem hk
  unfold ssA ssI at h
  obtain ⟨b, _, hb⟩ := List.mem_flatMap.mp h
  obtain ⟨x, _, hx⟩ := List.mem_map.mp hb
  exact ⟨_, hx.symm⟩
theorem nsA_at (l : List S43) (k : Nat) (hk : k < l.length) : (nsA l).getD k [] = (rd_T43 l k).f2 ++ mI := by
  rw [rd43 l k hk]
  simp [nsA, List.getD_eq_getElem?_getD, hk]
theorem isA_at (l : List S43) (k : Nat) (hk : k < l.length) : (isA l).getD k [] = (rd_T43 l k).f1 ++ m47 := by
  rw [rd43 l k hk]
  simp [isA, List.getD_eq_getElem?_getD, hk]
theorem m82_at {W : World} {A : Option Addr} {y : List S82} (h : Kd.C k82 W A (y ++ m82).length (y ++ m82)) (i : Nat) (hi : i < 16) : ∃ ad, A = some ad ∧ W.cell? (ad.add ((y.length + i) * 2)) = some (.int .i64 (-7)) ∧ W.cell? ⟨(ad.add ((y.length + i) * 2)).block, (ad.add ((y.length + i) * 2)).off + 1, none⟩ = some (.int .i64 i) := by
  have hl : (y ++ m82).length = y.length + 16 := by rw [List.length_append]; rfl
  obtain ⟨ad, e, h0, h1⟩ := at_T82 h ((y.length + i : Nat) : Int) (by omega) (by omega)
  have hr : rd_T82 (y ++ m82) ((y.length + i : Nat) : Int) = ⟨-7, (i : Int)⟩ := by
    simp only [rd_T82, Int.toNat_natCast, List.getD_eq_getElem?_getD]
    rw [List.getElem?_append_right (by omega), Nat.add_sub_cancel_left]
    simp [m82, hi]
  rw [hr] at h0 h1
  simp only [Int.toNat_natCast] at h0 h1
  exact ⟨ad, e, h0, h1⟩
theorem m78_at {W : World} {A : Option Addr} {y : List S78} (h : Kd.C k78 W A (y ++ m78).length (y ++ m78)) (i : Nat) (hi : i < 16) : ∃ ad A2 c2, A = some ad ∧ W.cell? (ad.add ((y.length + i) * 3)) = some (.int .i64 (-7)) ∧ W.cell? ⟨(ad.add ((y.length + i) * 3)).block, (ad.add ((y.length + i) * 3)).off + 1, none⟩ = some (.int .i64 i) ∧ W.cell? ⟨(ad.add ((y.length + i) * 3)).block, (ad.add ((y.length + i) * 3)).off + 2, none⟩ = some (.slice A2 0 c2) := by
  have hl : (y ++ m78).length = y.length + 16 := by rw [List.length_append]; rfl
  obtain ⟨ad, A2, c2, e, h0, h1, h2, _⟩ := at_T78 h ((y.length + i : Nat) : Int) (by omega) (by omega)
  have hr : rd_T78 (y ++ m78) ((y.length + i : Nat) : Int) = ⟨-7, (i : Int), []⟩ := by
    simp only [rd_T78, Int.toNat_natCast, List.getD_eq_getElem?_getD]
    rw [List.getElem?_append_right (by omega), Nat.add_sub_cancel_left]
    simp [m78, hi]
  rw [hr] at h0 h1 h2
  simp only [Int.toNat_natCast] at h0 h1 h2
  exact ⟨ad, A2, c2, e, h0, h1, h2⟩
theorem m47_at {W : World} {A : Option Addr} {y : List S47} (h : Kd.C k47 W A (y ++ m47).length (y ++ m47)) (i : Nat) (hi : i < 16) : ∃ ad A3 c3 A7 c7, A = some ad ∧ InsAt W (ad.add ((y.length + i) * 8)) ⟨-7, 0, 0, [], 0, (i : Int), 0, []⟩ A3 c3 A7 c7 := by
  have hl : (y ++ m47).length = y.length + 16 := by rw [List.length_append]; rfl
  obtain ⟨ad, A3, c3, A7, c7, e, hin, _⟩ := rd_ins h (y.length + i) (by omega)
  have hr : rd_T47 (y ++ m47) ((y.length + i : Nat) : Int) = ⟨-7, 0, 0, [], 0, (i : Int), 0, []⟩ := by
    simp only [rd_T47, Int.toNat_natCast, List.getD_eq_getElem?_getD]
    rw [List.getElem?_append_right (by omega), Nat.add_sub_cancel_left]
    simp [m47, hi]
  rw [hr] at hin
  exact ⟨ad, A3, c3, A7, c7, e, hin⟩
theorem mI_at {W : World} {A : Option Addr} {y : List Int} (h : Kd.C (Kd.int .i64) W A (y ++ mI).length (y ++ mI)) (i : Nat) (hi : i < 16) : ∃ ad, A = some ad ∧ W.cell? (ad.add (y.length + i)) = some (.int .i64 (-7 - (i : Int))) := by
  have hl : (y ++ mI).length = y.length + 16 := by rw [List.length_append]; rfl
  obtain ⟨ad, e, h0⟩ := Kd.at_int h ((y.length + i : Nat) : Int) (by omega) (by omega)
  have hr : rd (y ++ mI) ((y.length + i : Nat) : Int) = -7 - (i : Int) := by
    simp only [rd, Int.toNat_natCast, List.getD_eq_getElem?_getD]
    rw [List.getElem?_append_right (by omega), Nat.add_sub_cancel_left]
    simp [mI, hi]
  rw [hr] at h0
  simp only [Int.toNat_natCast] at h0
  exact ⟨ad, e, h0⟩
theorem m43_at {W : World} {A : Option Addr} {y : List S43} (h : Kd.C k43 W A (y ++ m43).length (y ++ m43)) (i : Nat) (hi : i < 16) : ∃ ad A1 c1 A2 c2, A = some ad ∧ W.cell? (ad.add ((y.length + i) * 3)) = some (.int .i64 (-7 - (i : Int))) ∧ W.cell? ⟨(ad.add ((y.length + i) * 3)).block, (ad.add ((y.length + i) * 3)).off + 1, none⟩ = some (.slice A1 0 c1) ∧ W.cell? ⟨(ad.add ((y.length + i) * 3)).block, (ad.add ((y.length + i) * 3)).off + 2, none⟩ = some (.slice A2 0 c2) := by
  have hl : (y ++ m43).length = y.length + 16 := by rw [List.length_append]; rfl
  obtain ⟨ad, A1, c1, A2, c2, e, h0, h1, h2, _⟩ := at_T43 h ((y.length + i : Nat) : Int) (by omega) (by omega)
  have hr : rd_T43 (y ++ m43) ((y.length + i : Nat) : Int) = ⟨-7 - (i : Int), [], []⟩ := by
    simp only [rd_T43, Int.toNat_natCast, List.getD_eq_getElem?_getD]
    rw [List.getElem?_append_right (by omega), Nat.add_sub_cancel_left]
    simp [m43, hi]
  rw [hr] at h0 h1 h2
  simp only [Int.toNat_natCast] at h0 h1 h2
  exact ⟨ad, A1, c1, A2, c2, e, h0, h1, h2⟩

set_option maxHeartbeats 8000000 in
set_option maxRecDepth 100000 in
theorem marked32_calls {w0 w : World} {gh : Nat} {fn rg : Int} {A : Option Addr} {n c : Nat} {vO vS vN vI : Value} {bs : List S43} (h : HK w0 w gh fn rg A n c vO vS vN vI bs) (hf : FitH bs) :
    Calls Try.prog 32 #[.pointer (some ⟨gh, 0, none⟩)] w fun e w' => e = .returned (.bool true) ∧ Below w.heap.size w w' := by
  have H0 : Aside0 (HK w0 w gh fn rg A n c vO vS vN vI bs ∧ Below w.heap.size w w) := ⟨h, Below.refl _ _⟩
  have HFT := Aside0.mk hf
  obtain ⟨Ao, co, hvo⟩ := Kd.R_slice h.O
  obtain ⟨As, cs, hvs⟩ := Kd.R_slice h.S
  obtain ⟨An, cn, hvn⟩ := Kd.R_slice h.N
  obtain ⟨Ai, ci, hvi⟩ := Kd.R_slice h.I
  subst hvo hvs hvn hvi
  have hmo : (osA bs).length ≤ 9223372036854775807 := by have := hf.os; omega
  have hms : (ssA bs).length ≤ 9223372036854775807 := by have := hf.ss; omega
  have hmb : bs.length ≤ 9223372036854775000 := by have := hf.blocks; omega
  have hln : (nsA bs).length = bs.length := by simp [nsA]
  have hli : (isA bs).length = bs.length := by simp [isA]
  have hlen : n = bs.length := h.len
  rw [hln, hli] at H0
  subst hlen
  clear h hf hln hli
  generalize hno : (osA bs).length = no at *
  generalize hnsq : (ssA bs).length = ns at *
  have HNO := Aside0.mk hno
  have HNS := Aside0.mk hnsq
  clear hno hnsq
  go_enter Try.func32, Try.ntmps32
  go_wp2_with fail
  go_loopw [3] (fun v3 wi => ∃ (k : Nat), k ≤ no ∧ v3 = .int .i64 k ∧ Aside0 (HK w0 wi gh fn rg A bs.length c (.slice Ao no co) (.slice As ns cs) (.slice An bs.length cn) (.slice Ai bs.length ci) bs ∧ Below w.heap.size w wi)) (fun v3 _ => no - (intOf v3).toNat)
  case atStart => exact ⟨0, by omega, rfl, H0⟩
  case round =>
    clear H0
    obtain ⟨k, hk, rfl, HH⟩ := hrel
    have h3 : wr.cell? ⟨gh, 3, none⟩ = some (.slice Ao no co) := (blk_cell HH.out.1.blk 3).trans rfl
    by_cases hlt : k < no
    · obtain ⟨y, hy⟩ := osA_at bs k (by rw [HNO.out]; exact hlt)
      have hC := (Kd.R_reads' HH.out.1.O).2.2
      rw [HNO.out] at hC
      obtain ⟨ad, B, cB, e, hcell, _, hCB⟩ := rd_list hC k hlt
      subst e
      rw [hy] at hcell hCB
      have hl : (y ++ m82).length = y.length + 16 := by rw [List.length_append]; rfl
      rw [hl] at hcell
      have hym : y.length + 16 ≤ 9223372036854775807 := by have := Kd.C_max hCB; omega
      have HCB : Aside0 (∀ i, i < 16 → _) := ⟨fun i hi => m82_at hCB i hi⟩
      have HKL := Aside0.mk hlt
      have hki : (k : Int) < no := by omega
      have HCE := Aside0.mk hcell
      clear hC hy hCB hl hlt hk
      go_wp2_with fail
      clear h3 hcell
      generalize wr = wo at *
      have HB0 : Aside0 (Below wo.heap.size wo wo) := ⟨Below.refl _ _⟩
      go_loopw [5] (fun v5 wi => ∃ (i : Nat), i ≤ 16 ∧ v5 = .int .i64 i ∧ Aside0 (Below wo.heap.size wo wi)) (fun v5 _ => 16 - (intOf v5).toNat)
      case atStart => exact ⟨0, by omega, rfl, HB0⟩
      case round =>
        clear HB0
        obtain ⟨i, hi, rfl, HB⟩ := hrel
        by_cases hlt : i < 16
        · have h3 := pw_cell_below HB.out ((blk_cell HH.out.1.blk 3).trans rfl : wo.cell? ⟨gh, 3, none⟩ = some (.slice (some ad) no co))
          have hcell := pw_cell_below HB.out HCE.out
          obtain ⟨ab, e, c0, c1⟩ := HCB.out i hlt
          subst e
          replace c0 := pw_cell_below HB.out c0
          replace c1 := pw_cell_below HB.out c1
          have HLT := Aside0.mk hlt
          have hi16 : (i : Int) < 16 := by omega
          have hx0 : 0 ≤ (y.length : Int) + i := by omega
          have hxt : ((y.length : Int) + i).toNat = y.length + i := by omega
          have hxl : (y.length : Int) + i < (y.length : Int) + 16 := by omega
          clear hlt hi
          go_wp2_with fail
          go_roundw
          case rel => exact ⟨i + 1, by have := HLT.out; omega, by go_num, HB⟩
          case measure => simp [intOf]; omega
        · obtain rfl : i = 16 := by omega
          have hk2 := HKL.out
          go_wp2_with fail
          go_roundw
          case rel => exact ⟨k + 1, by omega, by go_num, ⟨HH.out.1.next HB.out, below_step HH.out.2 HB.out⟩⟩
          case measure => simp [intOf]; omega
    · obtain rfl : k = no := by omega
      have H0 := HH
      clear HH
      go_wp2_with fail
      clear h3 hlt hk
      go_loopw [6] (fun v6 wi => ∃ (q : Nat), q ≤ ns ∧ v6 = .int .i64 q ∧ Aside0 (HK w0 wi gh fn rg A bs.length c (.slice Ao k co) (.slice As ns cs) (.slice An bs.length cn) (.slice Ai bs.length ci) bs ∧ Below w.heap.size w wi)) (fun v6 _ => ns - (intOf v6).toNat)
      case atStart => exact ⟨0, by omega, rfl, H0⟩
      case round =>
        clear H0
        obtain ⟨q, hk, rfl, HH⟩ := hrel
        have h4 : wr.cell? ⟨gh, 4, none⟩ = some (.slice As ns cs) := (blk_cell HH.out.1.blk 4).trans rfl
        by_cases hlt : q < ns
        · obtain ⟨y, hy⟩ := ssA_at bs q (by rw [HNS.out]; exact hlt)
          have hC := (Kd.R_reads' HH.out.1.S).2.2
          rw [HNS.out] at hC
          obtain ⟨ad, B, cB, e, hcell, _, hCB⟩ := rd_list hC q hlt
          subst e
          rw [hy] at hcell hCB
          have hl : (y ++ m78).length = y.length + 16 := by rw [List.length_append]; rfl
          rw [hl] at hcell
          have hym : y.length + 16 ≤ 9223372036854775807 := by have := Kd.C_max hCB; omega
          have HCB : Aside0 (∀ i, i < 16 → _) := ⟨fun i hi => m78_at hCB i hi⟩
          have HKL := Aside0.mk hlt
          have hki : (q : Int) < ns := by omega
          have HCE := Aside0.mk hcell
          clear hC hy hCB hl hlt hk
          go_wp2_with fail
          clear h4 hcell
          generalize wr = wo at *
          have HB0 : Aside0 (Below wo.heap.size wo wo) := ⟨Below.refl _ _⟩
          go_loopw [8] (fun v8 wi => ∃ (i : Nat), i ≤ 16 ∧ v8 = .int .i64 i ∧ Aside0 (Below wo.heap.size wo wi)) (fun v8 _ => 16 - (intOf v8).toNat)
          case atStart => exact ⟨0, by omega, rfl, HB0⟩
          case round =>
            clear HB0
            obtain ⟨i, hi, rfl, HB⟩ := hrel
            by_cases hlt : i < 16
            · have h4 := pw_cell_below HB.out ((blk_cell HH.out.1.blk 4).trans rfl : wo.cell? ⟨gh, 4, none⟩ = some (.slice (some ad) ns cs))
              have hcell := pw_cell_below HB.out HCE.out
              obtain ⟨ab, A2, c2, e, c0, c1, c2'⟩ := HCB.out i hlt
              subst e
              replace c0 := pw_cell_below HB.out c0
              replace c1 := pw_cell_below HB.out c1
              replace c2' := pw_cell_below HB.out c2'
              have HLT := Aside0.mk hlt
              have hi16 : (i : Int) < 16 := by omega
              have hx0 : 0 ≤ (y.length : Int) + i := by omega
              have hxt : ((y.length : Int) + i).toNat = y.length + i := by omega
              have hxl : (y.length : Int) + i < (y.length : Int) + 16 := by omega
              clear hlt hi
              go_wp2_with (first
                | ((with_reducible refine gate_dst (N := 9) rfl ?_); refine alloc78_event rfl rfl rfl ?_; intro g9 w12 hg12 hA12 hb12; have HG9 := Aside0.mk hg12; have HB12 := Aside0.mk hb12; have z0 : w12.cell? ⟨g9, 0, none⟩ = some (.int .i64 0) := ((blk_cell hA12 0).trans rfl); have y0 := blk_frozen hA12 0; have z1 : w12.cell? ⟨g9, 1, none⟩ = some (.int .i64 0) := ((blk_cell hA12 1).trans rfl); have y1 := blk_frozen hA12 1; have z2 : w12.cell? ⟨g9, 2, none⟩ = some (.slice none 0 0) := ((blk_cell hA12 2).trans rfl); have y2 := blk_frozen hA12 2; clear hg12 hA12 hb12 h4 hcell c0 c1 c2'))
              go_roundw
              case rel => exact ⟨i + 1, by have := HLT.out; omega, by go_num, ⟨below_step HB.out (below_set (below_set (below_set HB12.out HG9.out) HG9.out) HG9.out)⟩⟩
              case measure => simp [intOf]; omega
            · obtain rfl : i = 16 := by omega
              have hk2 := HKL.out
              go_wp2_with fail
              go_roundw
              case rel => exact ⟨q + 1, by omega, by go_num, ⟨HH.out.1.next HB.out, below_step HH.out.2 HB.out⟩⟩
              case measure => simp [intOf]; omega
        · obtain rfl : q = ns := by omega
          have H0 := HH
          clear HH
          go_wp2_with fail
          clear h4 hlt hk
          go_loopw [10] (fun v10 wi => ∃ (b : Nat), b ≤ bs.length ∧ v10 = .int .i64 b ∧ Aside0 (HK w0 wi gh fn rg A bs.length c (.slice Ao k co) (.slice As q cs) (.slice An bs.length cn) (.slice Ai bs.length ci) bs ∧ Below w.heap.size w wi)) (fun v10 _ => bs.length - (intOf v10).toNat)
          case atStart => exact ⟨0, by omega, rfl, H0⟩
          case round =>
            clear H0
            obtain ⟨b, hk, rfl, HH⟩ := hrel
            have h6 : wr.cell? ⟨gh, 6, none⟩ = some (.slice Ai bs.length ci) := (blk_cell HH.out.1.blk 6).trans rfl
            have h5 : wr.cell? ⟨gh, 5, none⟩ = some (.slice An bs.length cn) := (blk_cell HH.out.1.blk 5).trans rfl
            by_cases hlt : b < bs.length
            · have hC := (Kd.R_reads' HH.out.1.I).2.2
              have hCN := (Kd.R_reads' HH.out.1.N).2.2
              rw [show (isA bs).length = bs.length by simp [isA]] at hC
              rw [show (nsA bs).length = bs.length by simp [nsA]] at hCN
              obtain ⟨ad, B, cB, e, hcell, _, hCB⟩ := rd_list hC b hlt
              obtain ⟨an, BN, cBN, e2, hcelln, _, hCBN⟩ := rd_list hCN b hlt
              subst e e2
              rw [isA_at bs b hlt] at hcell hCB
              rw [nsA_at bs b hlt] at hcelln hCBN
              generalize (rd_T43 bs b).f1 = y at *
              generalize (rd_T43 bs b).f2 = yn at *
              have hl : (y ++ m47).length = y.length + 16 := by rw [List.length_append]; rfl
              have hln : (yn ++ mI).length = yn.length + 16 := by rw [List.length_append]; rfl
              rw [hl] at hcell
              rw [hln] at hcelln
              have hym : y.length + 16 ≤ 9223372036854775807 := by have := Kd.C_max hCB; omega
              have hymn : yn.length + 16 ≤ 9223372036854775807 := by have := Kd.C_max hCBN; omega
              have HCB : Aside0 (∀ i, i < 16 → _) := ⟨fun i hi => m47_at hCB i hi⟩
              have HCN : Aside0 (∀ i, i < 16 → _) := ⟨fun i hi => mI_at hCBN i hi⟩
              have HKL := Aside0.mk hlt
              have hki : (b : Int) < bs.length := by omega
              have HCE := Aside0.mk hcell
              have HCEN := Aside0.mk hcelln
              clear hC hCN hCB hCBN hl hln hlt hk
              go_wp2_with fail
              clear h5 h6 hcell hcelln
              generalize wr = wo at *
              have HB0 : Aside0 (Below wo.heap.size wo wo) := ⟨Below.refl _ _⟩
              go_loopw [13] (fun v13 wi => ∃ (i : Nat), i ≤ 16 ∧ v13 = .int .i64 i ∧ Aside0 (Below wo.heap.size wo wi)) (fun v13 _ => 16 - (intOf v13).toNat)
              case atStart => exact ⟨0, by omega, rfl, HB0⟩
              case round =>
                clear HB0
                obtain ⟨i, hi, rfl, HB⟩ := hrel
                by_cases hlt : i < 16
                · have h6 := pw_cell_below HB.out ((blk_cell HH.out.1.blk 6).trans rfl : wo.cell? ⟨gh, 6, none⟩ = some (.slice (some ad) bs.length ci))
                  have h5 := pw_cell_below HB.out ((blk_cell HH.out.1.blk 5).trans rfl : wo.cell? ⟨gh, 5, none⟩ = some (.slice (some an) bs.length cn))
                  have hcell := pw_cell_below HB.out HCE.out
                  have hcelln := pw_cell_below HB.out HCEN.out
                  obtain ⟨ab, A3, d3, A7, d7, e, hin⟩ := HCB.out i hlt
                  obtain ⟨an2, e2, n0⟩ := HCN.out i hlt
                  subst e e2
                  obtain ⟨q0, q1, q2, q3, q4, q5, q6, q7⟩ := hin.below HB.out
                  simp only at q0 q1 q2 q3 q4 q5 q6 q7
                  replace n0 := pw_cell_below HB.out n0
                  have HLT := Aside0.mk hlt
                  have hi16 : (i : Int) < 16 := by omega
                  have hx0 : 0 ≤ (y.length : Int) + i := by omega
                  have hxt : ((y.length : Int) + i).toNat = y.length + i := by omega
                  have hxl : (y.length : Int) + i < (y.length : Int) + 16 := by omega
                  have hn0 : 0 ≤ (yn.length : Int) + i := by omega
                  have hnt : ((yn.length : Int) + i).toNat = yn.length + i := by omega
                  have hnl : (yn.length : Int) + i < (yn.length : Int) + 16 := by omega
                  clear hlt hi hin
                  go_upto_region 29 with (first
                    | ((with_reducible refine gate_dst (N := 14) rfl ?_); refine box47_zero_event rfl rfl rfl ?_; intro g14 w12 hg12 hA12 hb12; have HG14 := Aside0.mk hg12; have HA14 := Aside0.mk hA12; have HB12 := Aside0.mk hb12; have z0 : w12.cell? ⟨g14, 0, none⟩ = some (.int .i64 0) := ((blk_cell hA12 0).trans rfl); have y0 := blk_frozen hA12 0; have z1 : w12.cell? ⟨g14, 1, none⟩ = some (.int .i64 0) := ((blk_cell hA12 1).trans rfl); have y1 := blk_frozen hA12 1; have z2 : w12.cell? ⟨g14, 2, none⟩ = some (.int .i64 0) := ((blk_cell hA12 2).trans rfl); have y2 := blk_frozen hA12 2; have z3 : w12.cell? ⟨g14, 3, none⟩ = some (.slice none 0 0) := ((blk_cell hA12 3).trans rfl); have y3 := blk_frozen hA12 3; have z4 : w12.cell? ⟨g14, 4, none⟩ = some (.int .i64 0) := ((blk_cell hA12 4).trans rfl); have y4 := blk_frozen hA12 4; have z5 : w12.cell? ⟨g14, 5, none⟩ = some (.int .i64 0) := ((blk_cell hA12 5).trans rfl); have y5 := blk_frozen hA12 5; have z6 : w12.cell? ⟨g14, 6, none⟩ = some (.int .i64 0) := ((blk_cell hA12 6).trans rfl); have y6 := blk_frozen hA12 6; have z7 : w12.cell? ⟨g14, 7, none⟩ = some (.slice none 0 0) := ((blk_cell hA12 7).trans rfl); have y7 := blk_frozen hA12 7; clear hg12 hA12 hb12))
                  have HM : Aside0 (((((((((w12.setCell ⟨g14, 0, none⟩ (.int .i64 (-7))).setCell ⟨g14, 1, none⟩ (.int .i64 0)).setCell ⟨g14, 2, none⟩ (.int .i64 0)).setCell ⟨g14, 3, none⟩ (.slice A3 0 d3)).setCell ⟨g14, 4, none⟩ (.int .i64 0)).setCell ⟨g14, 5, none⟩ (.int .i64 i)).setCell ⟨g14, 6, none⟩ (.int .i64 0)).setCell ⟨g14, 7, none⟩ (.slice A7 0 d7)).heap[g14]? = some (.cells (row47 ⟨-7, 0, 0, [], 0, (i : Int), 0, []⟩ (.slice A3 0 d3) (.slice A7 0 d7)) 47 (0, 0))) := ⟨put47_blk HA14.out rfl _ _ _ _ _ _ _ _⟩
                  have HWB : Aside0 (Below wr.heap.size wr ((((((((w12.setCell ⟨g14, 0, none⟩ (.int .i64 (-7))).setCell ⟨g14, 1, none⟩ (.int .i64 0)).setCell ⟨g14, 2, none⟩ (.int .i64 0)).setCell ⟨g14, 3, none⟩ (.slice A3 0 d3)).setCell ⟨g14, 4, none⟩ (.int .i64 0)).setCell ⟨g14, 5, none⟩ (.int .i64 i)).setCell ⟨g14, 6, none⟩ (.int .i64 0)).setCell ⟨g14, 7, none⟩ (.slice A7 0 d7))) := ⟨LiveRunW.put47_below HB12.out HG14.out _ _ _ _ _ _ _ _⟩
                  generalize ((((((((w12.setCell ⟨g14, 0, none⟩ (.int .i64 (-7))).setCell ⟨g14, 1, none⟩ (.int .i64 0)).setCell ⟨g14, 2, none⟩ (.int .i64 0)).setCell ⟨g14, 3, none⟩ (.slice A3 0 d3)).setCell ⟨g14, 4, none⟩ (.int .i64 0)).setCell ⟨g14, 5, none⟩ (.int .i64 i)).setCell ⟨g14, 6, none⟩ (.int .i64 0)).setCell ⟨g14, 7, none⟩ (.slice A7 0 d7)) = wm at HM HWB ⊢
                  clear z0 z1 z2 z3 z4 z5 z6 z7 y0 y1 y2 y3 y4 y5 y6 y7 HA14 HB12 q0 q1 q2 q3 q4 q5 q6 q7 h6 hcell w12
                  replace h5 := pw_cell_below HWB.out h5
                  replace hcelln := pw_cell_below HWB.out hcelln
                  replace n0 := pw_cell_below HWB.out n0
                  have i0 : wm.cell? ⟨g14, 0, none⟩ = some (.int .i64 (-7)) := (blk_cell HM.out 0).trans rfl
                  have i3 : wm.cell? ⟨g14, 3, none⟩ = some (.slice A3 0 d3) := (blk_cell HM.out 3).trans rfl
                  have i5 : wm.cell? ⟨g14, 5, none⟩ = some (.int .i64 i) := (blk_cell HM.out 5).trans rfl
                  have i7 : wm.cell? ⟨g14, 7, none⟩ = some (.slice A7 0 d7) := (blk_cell HM.out 7).trans rfl
                  go_wp2_with fail
                  go_roundw
                  case rel => exact ⟨i + 1, by have := HLT.out; omega, by go_num, ⟨below_step HB.out HWB.out⟩⟩
                  case measure => simp [intOf]; omega
                · obtain rfl : i = 16 := by omega
                  have hk2 := HKL.out
                  go_wp2_with fail
                  go_roundw
                  case rel => exact ⟨b + 1, by omega, by go_num, ⟨HH.out.1.next HB.out, below_step HH.out.2 HB.out⟩⟩
                  case measure => simp [intOf]; omega
            · obtain rfl : b = bs.length := by omega
              clear hlt hk
              have h7 : wr.cell? ⟨gh, 7, none⟩ = some (.slice A (bs.length + 16) c) := (blk_cell HH.out.1.blk 7).trans rfl
              go_wp2_with fail
              clear h5 h6 h7
              generalize wr = wo at *
              have HB0 : Aside0 (Below wo.heap.size wo wo) := ⟨Below.refl _ _⟩
              have HCB : Aside0 (∀ i, i < 16 → _) := ⟨fun i hi => m43_at ((Kd.S_reads' HH.out.1.B).2.2) i hi⟩
              go_loopw [16] (fun v16 wi => ∃ (i : Nat), i ≤ 16 ∧ v16 = .int .i64 i ∧ Aside0 (Below wo.heap.size wo wi)) (fun v16 _ => 16 - (intOf v16).toNat)
              case atStart => exact ⟨0, by omega, rfl, HB0⟩
              case round =>
                clear HB0
                obtain ⟨i, hi, rfl, HB⟩ := hrel
                by_cases hlt : i < 16
                · have h7 := pw_cell_below HB.out ((blk_cell HH.out.1.blk 7).trans rfl : wo.cell? ⟨gh, 7, none⟩ = some (.slice A (bs.length + 16) c))
                  obtain ⟨ab, A1, c1, A2, c2, e, q0, q1, q2⟩ := HCB.out i hlt
                  subst e
                  replace q0 := pw_cell_below HB.out q0
                  replace q1 := pw_cell_below HB.out q1
                  replace q2 := pw_cell_below HB.out q2
                  have HLT := Aside0.mk hlt
                  have hi16 : (i : Int) < 16 := by omega
                  have hx0 : 0 ≤ (bs.length : Int) + i := by omega
                  have hxt : ((bs.length : Int) + i).toNat = bs.length + i := by omega
                  have hxl : (bs.length : Int) + i < (bs.length : Int) + 16 := by omega
                  clear hlt hi
                  go_wp2_with (first
                    | ((with_reducible refine gate_dst (N := 17) rfl ?_); refine LiveRunW.zero_event 43 #[.int .i64 0, .slice none 0 0, .slice none 0 0] rfl rfl (by first | (go_simp; done) | (go_simp; rfl)) ?_; intro g17 w12 hg12 hA12 hb12; have HG17 := Aside0.mk hg12; have HB12 := Aside0.mk hb12; have z0 : w12.cell? ⟨g17, 0, none⟩ = some (.int .i64 0) := ((blk_cell hA12 0).trans rfl); have y0 := blk_frozen hA12 0; have z1 : w12.cell? ⟨g17, 1, none⟩ = some (.slice none 0 0) := ((blk_cell hA12 1).trans rfl); have y1 := blk_frozen hA12 1; have z2 : w12.cell? ⟨g17, 2, none⟩ = some (.slice none 0 0) := ((blk_cell hA12 2).trans rfl); have y2 := blk_frozen hA12 2; clear hg12 hA12 hb12 h7 q0 q1 q2))
                  go_roundw
                  case rel => exact ⟨i + 1, by have := HLT.out; omega, by go_num, ⟨below_step HB.out (below_set (below_set (below_set HB12.out HG17.out) HG17.out) HG17.out)⟩⟩
                  case measure => simp [intOf]; omega
                · obtain rfl : i = 16 := by omega
                  go_wp2_with fail
                  go_ret
                  exact ⟨rfl, below_step HH.out.2 HB.out⟩
end Go.Proofs.Ytklknkfoafdgpaa.LiveMark
