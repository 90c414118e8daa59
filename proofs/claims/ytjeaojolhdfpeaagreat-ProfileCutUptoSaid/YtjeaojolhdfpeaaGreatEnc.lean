/- profile.Encode answers the form, or the error: by a walk of its text. -/
import Derived.Test.YtjeaojolhdfpeaaGreatPut
import Derived.Lib.SlBytesConst
namespace Go.Proofs.YtjeaojolhdfpeaaGreat.Enc
open Go.RowKit Go.Proofs.YtjeaojolhdfpeaaGreatW.PrintWords Go.Proofs.YtjeaojolhdfpeaaGreatW.PrintLast Go.Proofs.YtjeaojolhdfpeaaGreatW.PrintMore
open Go.Proofs.YtjeaojolhdfpeaaGreat.PProfileCut Go.Proofs.YtjeaojolhdfpeaaGreat.Writer Go.Proofs.YtjeaojolhdfpeaaGreat.Form
set_option linter.unusedVariables false
set_option linter.unusedSimpArgs false

theorem ret_bool {a b : Bool} (h : a = b) : Ending.returned (.bool a) = .returned (.bool b) := by rw [h]
theorem long (A : Option Addr) (n c : Nat) (w : World) :
    Calls Tryz.prog 45 #[.slice A n c] w fun e w' => e = .returned (.bool (decide (2000 < n))) ∧ Below w.heap.size w w' := by
  go_enter Tryz.func45, Tryz.ntmps45
  go_wp2
  go_ret
  exact ⟨ret_bool (by simp; omega), Below.refl _ _⟩

def Found (l : List (List S51)) (w : World) (e : Ending) (w' : World) : Prop :=
  ∃ r : Int, e = .returned (.int .i64 r) ∧ -1 ≤ r ∧ decide (0 ≤ r) = (l.any fun x => decide (2000 < x.length)) ∧ Below w.heap.size w w'

theorem index (A : Option Addr) (c : Nat) (l : List (List S51)) (w : World) (hr : Kd.C (Kd.slice 51 k51) w A l.length l) :
    Calls Tryz.prog 92 #[.slice A l.length c, .func (.func 45) #[] #[]] w (Found l w) := by
  have hn := Kd.C_max hr
  have HR := Aside0.mk hr
  clear hr
  go_enter Tryz.func92, Tryz.ntmps92
  go_wp2
  go_loopw [8] (fun i wr => ∃ k : Nat, k ≤ l.length ∧ i = .int .i64 k ∧ Aside0 (Below w.heap.size w wr) ∧ Aside0 (∀ j : Nat, j < k → decide (2000 < (rd_L3 l j).length) = false)) (fun i _ => l.length - (intOf i).toNat)
  case atStart => exact ⟨0, Nat.zero_le _, rfl, ⟨Below.refl _ _⟩, ⟨fun j hj => absurd hj (by omega)⟩⟩
  case round =>
    obtain ⟨k, hk, rfl, HB, HN⟩ := hrel
    by_cases hlt : k < l.length
    · obtain ⟨ad, A1, c1, rfl, h0, hl1, hr1⟩ := at_L3 HR.out (k : Int) (by omega) (by omega)
      simp only [Int.toNat_natCast] at h0
      replace h0 := (HB.out.cell (World.block_lt_of_cell? w _ h0)).trans h0
      clear hr1
      cases hx : decide (2000 < (rd_L3 l k).length)
      · have HX := Aside0.mk hx
        clear hx
        go_wp2_with (go_at_call 45; refine (long _ _ _ _).mono ?_; rintro e w' ⟨rfl, hb1⟩; rw [HX.out]; have HB1 := Aside0.mk hb1; clear hb1)
        go_roundw
        case rel =>
          refine ⟨k + 1, by omega, by go_num, ⟨below_then HB.out HB.out.size HB1.out⟩, ⟨fun j hj => ?_⟩⟩
          by_cases e : j = k
          · subst e; exact HX.out
          · exact HN.out j (by omega)
        case measure => simp [intOf]; omega
      · have HX := Aside0.mk hx
        clear hx
        go_wp2_with (go_at_call 45; refine (long _ _ _ _).mono ?_; rintro e w' ⟨rfl, hb1⟩; rw [HX.out]; have HB1 := Aside0.mk hb1; clear hb1)
        go_ret
        refine ⟨k, rfl, by omega, ?_, below_then HB.out HB.out.size HB1.out⟩
        have : (l.any fun x => decide (2000 < x.length)) = true := by
          rw [List.any_eq_true]
          have := HX.out
          rw [rdL l k hlt] at this
          exact ⟨_, List.getElem_mem hlt, this⟩
        rw [this]
        simp
    · go_wp2
      go_ret
      refine ⟨-1, rfl, by omega, ?_, HB.out⟩
      have : (l.any fun x => decide (2000 < x.length)) = false := by
        rw [List.any_eq_false]
        intro x hx
        obtain ⟨j, hj, rfl⟩ := List.getElem_of_mem hx
        have := HN.out j (by omega)
        rw [rdL l j hj] at this
        simpa using this
      rw [this]
      rfl

theorem contains (A : Option Addr) (c : Nat) (l : List (List S51)) (w : World) (hr : Kd.C (Kd.slice 51 k51) w A l.length l) :
    Calls Tryz.prog 44 #[.slice A l.length c, .func (.func 45) #[] #[]] w fun e w' => e = .returned (.bool (l.any fun x => decide (2000 < x.length))) ∧ Below w.heap.size w w' := by
  have HR := Aside0.mk hr
  clear hr
  go_enter Tryz.func44, Tryz.ntmps44
  go_wp2_with (go_at_call 92; refine (index A c l _ HR.out).mono ?_; rintro e w' ⟨r, rfl, hr1, hr2, hb1⟩; have HX := Aside0.mk hr2; have HB1 := Aside0.mk hb1; clear hb1 hr2)
  go_ret
  exact ⟨ret_bool HX.out, HB1.out⟩

/-- What Encode leaves. -/
def Encoded (l : List (List S51)) (w : World) (e : Ending) (w' : World) : Prop :=
  ∃ v, e = .returned (.tuple #[v, .int .i64 (enc l).2]) ∧ Kd.R (Kd.int .u8) 5 w' w.heap.size (fun k => w.heap.size ≤ k) v (enc l).1 ∧ Below w.heap.size w w'

/-- A row of bytes that was just laid, whatever its marks. -/
theorem new_bytes (w : World) (xs : List Int) (fr : Nat × Nat) (hn : xs.length ≤ 9223372036854775807) : Kd.C (Kd.int .u8) (w.alloc (.cells (nums .u8 xs).toArray 5 fr)) (some ⟨w.heap.size, 0, none⟩) xs.length xs := by
  refine ⟨rfl, hn, fun _ => ⟨_, rfl, fun j p hp => ⟨[.int .u8 p], rfl, rfl, fun i u hu => ?_⟩⟩⟩
  have hi : i = 0 := by
    have := (List.getElem?_eq_some_iff.1 hu).1
    simpa using this
  subst hi
  obtain rfl : u = .int .u8 p := by simpa using hu.symm
  have hh : (w.alloc (.cells (nums .u8 xs).toArray 5 fr)).heap[w.heap.size]? = some (.cells (nums .u8 xs).toArray 5 fr) := heap_alloc_new w _
  show (w.alloc (.cells (nums .u8 xs).toArray 5 fr)).cell? ((⟨w.heap.size, 0, none⟩ : Addr).add (j * 1 + 0)) = _
  rw [add_plain, cell_of_row _ _ _ _ _ _ hh]
  simp [nums, hp]
theorem check_yes (s : S51) (h : okSpot s = true) : profile_check.f s.f0 s.f1 s.f2 s.f3 = some 0 := by
  simp only [okSpot, Bool.and_eq_true, decide_eq_true_eq] at h
  unfold profile_check.f
  rw [if_neg (by omega), if_neg (by omega), if_neg (by omega), if_neg (by omega), if_neg (by omega)]
theorem check_no (s : S51) (h : okSpot s = false) : profile_check.f s.f0 s.f1 s.f2 s.f3 = some 1 := by
  unfold profile_check.f
  by_cases h0 : s.f0 < 0
  · rw [if_pos h0]
  by_cases h1 : s.f1 > 1023
  · rw [if_neg h0, if_pos h1]
  by_cases h2 : s.f2 > 1023
  · rw [if_neg h0, if_neg h1, if_pos h2]
  by_cases h3 : s.f3 < -1
  · rw [if_neg h0, if_neg h1, if_neg h2, if_pos h3]
  by_cases h4 : s.f3 > 128
  · rw [if_neg h0, if_neg h1, if_neg h2, if_neg h3, if_pos h4]
  exfalso
  have : okSpot s = true := by
    simp only [okSpot, Bool.and_eq_true, decide_eq_true_eq]
    omega
  rw [h] at this
  cases this
theorem ok_nonneg {s : S51} (h : okSpot s = true) : 0 ≤ s.f0 := by
  simp only [okSpot, Bool.and_eq_true, decide_eq_true_eq] at h
  exact h.1
theorem okProf_no {l : List (List S51)} {x : List S51} {s : S51} (hx : x ∈ l) (hs : s ∈ x) (h : okSpot s = false) : okProf l = false := by
  unfold okProf
  rw [List.all_eq_false]
  refine ⟨x, hx, ?_⟩
  rw [Bool.not_eq_true, List.all_eq_false]
  exact ⟨s, hs, by rw [h]; simp⟩
theorem encoded_no {l : List (List S51)} {w w' : World} {n : Int} (he : enc l = ([], n)) (hb : Below w.heap.size w w') : Encoded l w (.returned (.tuple #[.slice none 0 0, .int .i64 n])) w' :=
  ⟨_, by rw [he], by rw [he]; exact Kd.R_nil _ _ _ _ _, hb⟩

theorem encoded_yes {l : List (List S51)} {w w' : World} {v : Value} (he : enc l = (form l, 0)) (hR : Kd.R (Kd.int .u8) 5 w' w.heap.size (fun k => w.heap.size ≤ k) v (form l)) (hb : Below w.heap.size w w') : Encoded l w (.returned (.tuple #[v, .int .i64 0])) w' :=
  ⟨v, by rw [he], by rw [he]; exact hR, hb⟩

set_option maxHeartbeats 8000000 in
set_option maxRecDepth 100000 in
theorem encode (A : Option Addr) (c : Nat) (l : List (List S51)) (w : World) (hr : Kd.C (Kd.slice 51 k51) w A l.length l) (hg : ∀ x ∈ l, ∀ s ∈ x, Rg s) :
    Calls Tryz.prog 19 #[.agg #[.slice A l.length c]] w (Encoded l w) := by
  have HR := Aside0.mk hr
  have HGr := Aside0.mk hg
  clear hr hg
  have HB := Aside0.mk (below_alloc (Below.refl w.heap.size w) (.cells #[.slice A l.length c] 25))
  have B1 : Aside0 ((w.alloc (.cells #[.slice A l.length c] 25)).heap[w.heap.size]? = some (.cells #[.slice A l.length c] 25 (0, 0))) := ⟨blk_new _ _⟩
  by_cases h128 : 128 < l.length
  · have he : enc l = ([], 5) := by unfold enc; rw [show many l = true by unfold many; rw [decide_eq_true h128, Bool.true_or]]; rfl
    have HE := Aside0.mk he
    clear he
    have g1 : decide ((128 : Int) < (l.length : Int)) = true := by simp; omega
    have g2 : decide (128 < l.length) = true := by simp; omega
    go_enter Tryz.func19, Tryz.ntmps19
    go_wp2_with fail
    go_ret2
    exact encoded_no HE.out HB.out
  · have kc := fun (w : World) (C : Array Value) (n c : Nat) => Lib.run_convert_bytes_const (P := Tryz.prog) w 54 5 C n c Tryz.underlying54 Tryz.underlying5
    have g1 : decide ((128 : Int) < (l.length : Int)) = false := by simp; omega
    have g2 : decide (128 < l.length) = false := by simp; omega
    cases hm : l.any fun x => decide (2000 < x.length)
    · have HM := Aside0.mk hm
      clear hm
      go_enter Tryz.func19, Tryz.ntmps19
      have hmany : many l = false := by unfold many; rw [decide_eq_false h128, HM.out]; rfl
      obtain ⟨hl, h2000⟩ := many_false hmany
      have HMy := Aside0.mk hmany
      have H2 := Aside0.mk h2000
      clear hmany h2000
      go_wp2_with fail
      refine (contains A c l _ (Kd.C_below HR.out HB.out)).mono ?_
      rintro e w1 ⟨rfl, hb1⟩
      rw [HM.out]
      replace HB := Aside0.mk (below_step HB.out hb1)
      replace B1 := Aside0.mk (blk_below B1.out hb1)
      have HN : Aside0 (w.heap.size ≠ w1.heap.size) := ⟨by have := blk_lt B1.out; omega⟩
      clear hb1 g1 g2
      go_wp2_with fail
      refine (Writer.newWriter w _ HB.out).mono ?_
      rintro e w2 ⟨rfl, hW, hb2⟩
      replace B1 := Aside0.mk (blk_below B1.out hb2)
      have HW := Aside0.mk hW
      clear hb2 hW HB
      generalize w1.heap.size = g at HW HN ⊢
      go_wp2_with fail
      refine (Writer.raw w _ g [] headForm _ 4 4 (HW.out.alloc _) (new_bytes w2 headForm (4, 5) (by simp [headForm])) (by simp)).mono ?_
      rintro e w3 ⟨rfl, hW3, hS3⟩
      replace B1 := Aside0.mk (hS3.2 w.heap.size 25 _ HN.out (by decide) (blk_alloc B1.out _))
      replace HW := Aside0.mk hW3
      clear hS3 hW3
      have hc1 : w3.cell? ⟨w.heap.size, 0, none⟩ = some (.slice A l.length c) := (blk_cell B1.out 0).trans rfl
      have huw : IntKind.u64.wrap (l.length : Int) = (l.length : Int) := by rw [IntKind.wrap_u64]; omega
      obtain ⟨k1, hk1⟩ := digits_some l.length headForm (by omega) (by simp [headForm])
      have HK1 := Aside0.mk hk1
      clear hk1
      go_wp2_with fail
      refine (Writer.uint w _ g headForm _ _ k1 HW.out HK1.out).mono ?_
      rintro e w4 ⟨rfl, hW4, hS4⟩
      replace B1 := Aside0.mk (hS4.2 w.heap.size 25 _ HN.out (by decide) B1.out)
      replace HW := Aside0.mk hW4
      clear hS4 hW4 hc1 huw HK1
      have hc1 : w4.cell? ⟨w.heap.size, 0, none⟩ = some (.slice A l.length c) := (blk_cell B1.out 0).trans rfl
      go_wp2_with fail
      clear hc1
      go_loopw [33] (fun i wr => ∃ k : Nat, k ≤ l.length ∧ i = .int .i64 k ∧ Aside0 (Wr w wr g (headForm ++ uv l.length ++ (l.take k).flatMap rowForm)) ∧ Aside0 (wr.heap[w.heap.size]? = some (.cells #[.slice A l.length c] 25 (0, 0))) ∧ Aside0 (∀ x ∈ l.take k, x.all okSpot = true)) (fun i _ => l.length - (intOf i).toNat)
      case atStart => exact ⟨0, by omega, rfl, ⟨by simpa using HW.out⟩, B1, ⟨fun x hx => by simp at hx⟩⟩
      case round =>
        clear HW B1
        obtain ⟨k, hk, rfl, HW, B1, HO⟩ := hrel
        by_cases hlt : k < l.length
        · obtain ⟨ad, A1, c1, rfl, h0, hl1, hr1⟩ := at_L3 HR.out (k : Int) (by omega) (by omega)
          rw [rdL l k hlt] at h0 hl1 hr1
          simp only [Int.toNat_natCast] at h0
          have hxm := List.getElem_mem hlt
          have htk : l.take (k + 1) = l.take k ++ [l[k]] := take_snoc l k hlt
          obtain ⟨x, hx⟩ : ∃ x, x = l[k] := ⟨_, rfl⟩
          rw [← hx] at h0 hl1 hr1 hxm htk
          have HT := Aside0.mk htk
          have hx2 := H2.out x hxm
          have HX := Aside0.mk (HGr.out x hxm)
          have HXm := Aside0.mk hxm
          have HR1 := Aside0.mk hr1
          clear hx hxm htk hr1
          replace h0 := (HW.out.below.cell (World.block_lt_of_cell? w _ h0)).trans h0
          have huw : IntKind.u64.wrap (x.length : Int) = (x.length : Int) := by rw [IntKind.wrap_u64]; omega
          obtain ⟨pre, hpre⟩ : ∃ pre, pre = headForm ++ uv l.length ++ (l.take k).flatMap rowForm := ⟨_, rfl⟩
          rw [← hpre] at HW
          have hpl : pre.length ≤ 10600000 := by
            have h1 := profForm_length (l.take k) (fun y hy => H2.out y (List.mem_of_mem_take hy)) (fun y hy s hs => (HGr.out y (List.mem_of_mem_take hy) s hs).inI)
            have h2 := uv_length (n := l.length) (by omega)
            rw [List.length_take] at h1
            rw [hpre]
            simp only [headForm, List.length_append, List.length_cons, List.length_nil]
            omega
          have HP := Aside0.mk hpre
          clear hpre
          obtain ⟨k1, hk1⟩ := digits_some x.length pre (by omega) (by omega)
          have HK1 := Aside0.mk hk1
          clear hk1
          go_wp2_with fail
          refine (Writer.uint w _ g pre _ _ k1 HW.out HK1.out).mono ?_
          rintro e w5 ⟨rfl, hW5, hS5⟩
          replace B1 := Aside0.mk (hS5.2 w.heap.size 25 _ HN.out (by decide) B1.out)
          replace HW := Aside0.mk hW5
          clear hS5 hW5 huw HK1 h0
          go_wp2_with fail
          go_loopw [44] (fun i wi => ∃ j : Nat, j ≤ x.length ∧ i = .int .i64 j ∧ Aside0 (Wr w wi g (pre ++ uv x.length ++ (x.take j).flatMap spotForm)) ∧ Aside0 (wi.heap[w.heap.size]? = some (.cells #[.slice (some ad) l.length c] 25 (0, 0))) ∧ Aside0 (∀ s ∈ x.take j, okSpot s = true)) (fun i _ => x.length - (intOf i).toNat)
          case atStart => exact ⟨0, by omega, rfl, ⟨by simpa using HW.out⟩, B1, ⟨fun x hx => by simp at hx⟩⟩
          case round =>
            clear HW B1
            obtain ⟨j, hj, rfl, HW, B1, HO2⟩ := hrel
            by_cases hjt : j < x.length
            · obtain ⟨a1, rfl, g0, g1, g2, g3⟩ := at_T51 HR1.out (j : Int) (by omega) (by omega)
              rw [rdT x j hjt] at g0 g1 g2 g3
              simp only [Int.toNat_natCast] at g0 g1 g2 g3
              replace g0 := (HW.out.below.cell (World.block_lt_of_cell? w _ g0)).trans g0
              replace g1 := (HW.out.below.cell (World.block_lt_of_cell? w _ g1)).trans g1
              replace g2 := (HW.out.below.cell (World.block_lt_of_cell? w _ g2)).trans g2
              replace g3 := (HW.out.below.cell (World.block_lt_of_cell? w _ g3)).trans g3
              have hsm := List.getElem_mem hjt
              have htj : x.take (j + 1) = x.take j ++ [x[j]] := take_snoc x j hjt
              obtain ⟨s, hs⟩ : ∃ s, s = x[j] := ⟨_, rfl⟩
              rw [← hs] at g0 g1 g2 g3 hsm htj
              have HTj := Aside0.mk htj
              have HRg := Aside0.mk (HX.out s hsm)
              have HSm := Aside0.mk hsm
              clear hs hsm htj
              cases hok : okSpot s
              · have HOk := Aside0.mk hok
                have HC := Aside0.mk (check_no s hok)
                clear hok
                go_wp2_with (go_at_call 49; refine (profile_check.calls _ _ _ _ 1 _ HC.out).mono ?_; rintro e w6 ⟨rfl, hb6⟩; have HB6 := Aside0.mk hb6; clear hb6)
                go_ret2
                refine encoded_no ?_ (below_step (below_alloc HW.out.below _) HB6.out)
                unfold enc
                rw [HMy.out, show okProf l = false from okProf_no HXm.out HSm.out HOk.out]
                rfl
              · have HOk := Aside0.mk hok
                have HC := Aside0.mk (check_yes s hok)
                clear hok
                have B8 : Aside0 ((wr.alloc (.cells #[.int .i64 s.f0, .int .u16 s.f1, .int .u16 s.f2, .int .i64 s.f3] 51)).heap[wr.heap.size]? = some (.cells #[.int .i64 s.f0, .int .u16 s.f1, .int .u16 s.f2, .int .i64 s.f3] 51 (0, 0))) := ⟨blk_new _ _⟩
                go_wp2_with fail
                refine (profile_check.calls _ _ _ _ 0 _ HC.out).mono ?_
                rintro e w6 ⟨rfl, hb6⟩
                replace HW := Aside0.mk ((HW.out.alloc _).step hb6)
                replace B1 := Aside0.mk (blk_below (blk_alloc B1.out _) hb6)
                replace B8 := Aside0.mk (blk_below B8.out hb6)
                clear hb6 g0 g1 g2 g3
                generalize wr.heap.size = g8 at B8 ⊢
                have d0 : w6.cell? ⟨g8, 0, none⟩ = some (.int .i64 s.f0) := (blk_cell B8.out 0).trans rfl
                have d1 : w6.cell? ⟨g8, 1, none⟩ = some (.int .u16 s.f1) := (blk_cell B8.out 1).trans rfl
                have d2 : w6.cell? ⟨g8, 2, none⟩ = some (.int .u16 s.f2) := (blk_cell B8.out 2).trans rfl
                have d3 : w6.cell? ⟨g8, 3, none⟩ = some (.int .i64 s.f3) := (blk_cell B8.out 3).trans rfl
                go_wp2_with fail
                refine (Put.put w _ g _ s HW.out (ok_nonneg HOk.out) HRg.out ?hlen).mono ?_
                case hlen =>
                  have h1 := rows_length (x.take j) (fun s hs => (HX.out s (List.mem_of_mem_take hs)).inI)
                  have h2 := uv_length (n := x.length) (by omega)
                  rw [List.length_take] at h1
                  simp only [List.length_append]
                  omega
                rintro e w7 ⟨rfl, hW7, hS7⟩
                replace B1 := Aside0.mk (hS7.2 w.heap.size 25 _ HN.out (by decide) B1.out)
                replace HW := Aside0.mk hW7
                clear hS7 hW7 d0 d1 d2 d3 B8
                go_wp2_with fail
                go_roundw
                case rel =>
                  refine ⟨j + 1, by omega, by go_num, ⟨?_⟩, B1, ⟨?_⟩⟩
                  · rw [HTj.out, List.flatMap_append, ← List.append_assoc]
                    have := HW.out
                    simpa [List.append_assoc] using this
                  · rw [HTj.out]
                    intro y hy
                    rcases List.mem_append.1 hy with hy | hy
                    · exact HO2.out y hy
                    · rw [List.mem_singleton.1 hy]; exact HOk.out
                case measure => simp [intOf]; omega
            · obtain rfl : j = x.length := by omega
              rw [List.take_length] at HW HO2
              go_wp2_with fail
              go_roundw
              case rel =>
                refine ⟨k + 1, by omega, by go_num, ⟨?_⟩, B1, ⟨?_⟩⟩
                · rw [HT.out, List.flatMap_append, ← List.append_assoc, ← HP.out]
                  have := HW.out
                  simpa [rowForm, List.append_assoc] using this
                · rw [HT.out]
                  intro y hy
                  rcases List.mem_append.1 hy with hy | hy
                  · exact HO.out y hy
                  · rw [List.mem_singleton.1 hy, List.all_eq_true]
                    exact HO2.out
              case measure => simp [intOf]; omega
        · obtain rfl : k = l.length := by omega
          rw [List.take_length] at HW HO
          have he : enc l = (form l, 0) := by
            unfold enc
            rw [HMy.out, show okProf l = true from by unfold okProf; rw [List.all_eq_true]; exact HO.out]
            rfl
          have HE := Aside0.mk he
          clear he
          have hlen := enc_length l HGr.out
          rw [HE.out] at hlen
          go_wp2_with fail
          refine (Writer.done w _ g _ HW.out (by have := hlen; simp only [form] at this; omega)).mono ?_
          rintro e w5 ⟨v, rfl, hR, hb5⟩
          have HR5 := Aside0.mk hR
          have HB5 := Aside0.mk (below_step HW.out.below hb5)
          have hle := HW.out.below.size
          clear hR hb5
          go_wp2_with fail
          go_ret2
          exact encoded_yes HE.out (Kd.R_mono HR5.out (fun _ hk => by omega)) HB5.out
    · have he : enc l = ([], 5) := by unfold enc; rw [show many l = true by unfold many; rw [hm, Bool.or_true]]; rfl
      have HE := Aside0.mk he
      have HM := Aside0.mk hm
      clear he hm
      go_enter Tryz.func19, Tryz.ntmps19
      go_wp2_with (go_at_call 44; refine (contains A c l _ (Kd.C_below HR.out HB.out)).mono ?_; rintro e w1 ⟨rfl, hb1⟩; rw [HM.out]; have HB1 := Aside0.mk (below_step HB.out hb1); clear hb1)
      go_ret2
      exact encoded_no HE.out HB1.out
end Go.Proofs.YtjeaojolhdfpeaaGreat.Enc
