/- The program's flow.end: what is wanted behind a block. -/
import Derived.Test.YtklknkfoafdgpaaLiveAhead
import Derived.Deep.RegionWith
namespace Go.Proofs.Ytklknkfoafdgpaa.LiveEnd
open Go.RowKit Go.Proofs.YtklknkfoafdgpaaW.PrintWords Go.Proofs.YtklknkfoafdgpaaW.PrintLast Go.Proofs.YtklknkfoafdgpaaW.PrintMore
open Go.Proofs.Ytklknkfoafdgpaa.PLiveKnown Go.Proofs.Ytklknkfoafdgpaa.LiveT Go.Proofs.Ytklknkfoafdgpaa.LiveB Go.Proofs.Ytklknkfoafdgpaa.LiveSet Go.Proofs.Ytklknkfoafdgpaa.LiveAhead
set_option linter.unusedVariables false
set_option linter.unusedSimpArgs false

/-- The row of what is wanted ahead of each block. -/
def WS (w : World) (g n : Nat) (V : Nat → RS) : Prop := ∃ cs : Array Value, w.heap[g]? = some (.cells cs 64 (0, 0)) ∧ cs.size = n * 8 ∧ ∀ i, i < n → ∀ j, j < 8 → cs[i * 8 + j]? = some (u64 (word (V i) j))
theorem ws_below {w w1 : World} {g n : Nat} {V : Nat → RS} (h : WS w g n V) (hb : Below w.heap.size w w1) : WS w1 g n V := by
  obtain ⟨cs, h1, h2, h3⟩ := h
  exact ⟨cs, (hb.block g (blk_lt h1)).trans h1, h2, h3⟩
theorem ws_grown {w w1 : World} {g n : Nat} {V : Nat → RS} {r : Option Nat} (h : WS w g n V) (hg : w.grownBy w1 r) (hne : some g ≠ r) : WS w1 g n V := by
  obtain ⟨cs, h1, h2, h3⟩ := h
  exact ⟨cs, blk_grown h1 hg hne, h2, h3⟩
theorem ws_lt {w : World} {g n : Nat} {V : Nat → RS} (h : WS w g n V) : g < w.heap.size := by
  obtain ⟨cs, h1, h2, h3⟩ := h
  exact blk_lt h1
/-- One of its sets is read. -/
structure CellsAt (w : World) (g o : Nat) (S : RS) : Prop where
  c0 : w.cell? ⟨g, o, none⟩ = some (.int .u64 (word S 0))
  c1 : w.cell? ⟨g, o + 1, none⟩ = some (.int .u64 (word S 1))
  c2 : w.cell? ⟨g, o + 2, none⟩ = some (.int .u64 (word S 2))
  c3 : w.cell? ⟨g, o + 3, none⟩ = some (.int .u64 (word S 3))
  c4 : w.cell? ⟨g, o + 4, none⟩ = some (.int .u64 (word S 4))
  c5 : w.cell? ⟨g, o + 5, none⟩ = some (.int .u64 (word S 5))
  c6 : w.cell? ⟨g, o + 6, none⟩ = some (.int .u64 (word S 6))
  c7 : w.cell? ⟨g, o + 7, none⟩ = some (.int .u64 (word S 7))
theorem ws_cells {w : World} {g n : Nat} {V : Nat → RS} (h : WS w g n V) (i : Nat) (hi : i < n) : CellsAt w g (i * 8) (V i) := by
  obtain ⟨cs, h1, h2, h3⟩ := h
  exact ⟨(blk_cell h1 _).trans (h3 i hi 0 (by omega)), (blk_cell h1 _).trans (h3 i hi 1 (by omega)), (blk_cell h1 _).trans (h3 i hi 2 (by omega)), (blk_cell h1 _).trans (h3 i hi 3 (by omega)),
    (blk_cell h1 _).trans (h3 i hi 4 (by omega)), (blk_cell h1 _).trans (h3 i hi 5 (by omega)), (blk_cell h1 _).trans (h3 i hi 6 (by omega)), (blk_cell h1 _).trans (h3 i hi 7 (by omega))⟩
theorem cells_below {w w1 : World} {g o : Nat} {S : RS} (h : CellsAt w g o S) (hb : Below w.heap.size w w1) : CellsAt w1 g o S :=
  ⟨pw_cell_below hb h.c0, pw_cell_below hb h.c1, pw_cell_below hb h.c2, pw_cell_below hb h.c3, pw_cell_below hb h.c4, pw_cell_below hb h.c5, pw_cell_below hb h.c6, pw_cell_below hb h.c7⟩
/-- The flow: the code, and the row. -/
def cells89 (fn rg : Int) (Ab : Option Addr) (n cb gw : Nat) : Array Value := #[.int .i64 fn, .int .i64 rg, .slice Ab n cb, .slice (some ⟨gw, 0, none⟩) n n]
structure Flow (w : World) (gf : Nat) (fn rg : Int) (Ab : Option Addr) (cb gw : Nat) (bs : List S43) (V : Nat → RS) : Prop where
  blk : w.heap[gf]? = some (.cells (cells89 fn rg Ab bs.length cb gw) 89 (0, 0))
  code : Kd.C k43 w Ab bs.length bs
  ws : WS w gw bs.length V
  regs : ∀ i, i < bs.length → Regs (V i)
theorem Flow.below {w w1 : World} {gf : Nat} {fn rg : Int} {Ab : Option Addr} {cb gw : Nat} {bs : List S43} {V : Nat → RS} (h : Flow w gf fn rg Ab cb gw bs V) (hb : Below w.heap.size w w1) : Flow w1 gf fn rg Ab cb gw bs V :=
  ⟨(hb.block gf (blk_lt h.blk)).trans h.blk, Kd.C_below h.code hb, ws_below h.ws hb, h.regs⟩
theorem endd_take (n : Nat) (V : Nat → RS) (l : List Int) (k : Nat) (hk : k < l.length) : endd n V (l.take (k + 1)) = join (endd n V (l.take k)) (if 0 ≤ rd l k ∧ rd l k < n then V (rd l k).toNat else none') := by
  have hg : rd l k = l[k] := by simp [rd, List.getD_eq_getElem?_getD, hk]
  rw [hg, List.take_add_one, List.getElem?_eq_getElem hk]
  funext r
  simp only [endd, join, Option.toList_some, List.any_append, List.any_cons, List.any_nil, Bool.or_false]
  congr 1
  by_cases h : 0 ≤ l[k] ∧ l[k] < n
  · rw [if_pos h]
    simp [h.1, h.2]
  · rw [if_neg h]
    simp only [none']
    by_cases h0 : 0 ≤ l[k]
    · have : ¬ l[k] < n := fun h1 => h ⟨h0, h1⟩
      simp [this]
    · simp [h0]
theorem join_none (S : RS) : join S none' = S := by
  funext r
  simp [join, none']
/-- A block of the code is read. -/
theorem rd_block {w W : World} {A : Option Addr} {n : Nat} {l : List S43} (hr : Kd.C k43 w A n l) (hb : Below w.heap.size w W) (k : Nat) (hk : k < n) : ∃ ad A1 c1 A2 c2, A = some ad ∧ W.cell? (ad.add (k * 3)) = some (.int .i64 (rd_T43 l k).f0) ∧ W.cell? ⟨(ad.add (k * 3)).block, (ad.add (k * 3)).off + 1, none⟩ = some (.slice A1 (rd_T43 l k).f1.length c1) ∧ W.cell? ⟨(ad.add (k * 3)).block, (ad.add (k * 3)).off + 2, none⟩ = some (.slice A2 (rd_T43 l k).f2.length c2) ∧ (rd_T43 l k).f1.length ≤ c1 ∧ Kd.C k47 w A1 (rd_T43 l k).f1.length (rd_T43 l k).f1 ∧ (rd_T43 l k).f2.length ≤ c2 ∧ (Kd.int .i64).C w A2 (rd_T43 l k).f2.length (rd_T43 l k).f2 := by
  obtain ⟨ad, A1, c1, A2, c2, e, h0, h1, h2, l1, g1, l2, g2⟩ := at_T43 hr (k : Int) (by omega) (by omega)
  simp only [Int.toNat_natCast] at h0 h1 h2
  exact ⟨ad, A1, c1, A2, c2, e, pw_cell_below hb h0, pw_cell_below hb h1, pw_cell_below hb h2, l1, g1, l2, g2⟩

/-- The variables of end: the answer, the set so far. -/
structure EW (w W : World) (a b : Nat) (S : RS) : Prop where
  below : Below w.heap.size w W
  sa : At W a none'
  sb : At W b S
  ab : a ≠ b
  la : w.heap.size ≤ a
  lb : w.heap.size ≤ b
theorem EW.next {w W W1 : World} {a b : Nat} {S : RS} (h : EW w W a b S) (hb : Below W.heap.size W W1) : EW w W1 a b S := ⟨below_step h.below hb, at_below h.sa hb, at_below h.sb hb, h.ab, h.la, h.lb⟩
theorem EW.put {w W W1 : World} {a b : Nat} {S T : RS} (h : EW w W a b S) (hA : At W1 b T) (hg : W.grownBy W1 (some b)) : EW w W1 a b T :=
  ⟨h.below.grown hg h.below.size (fun k hk => by cases hk; exact h.lb), at_grown h.sa hg (by intro he; cases he; exact h.ab rfl), hA, h.ab, h.la, h.lb⟩

set_option maxHeartbeats 8000000 in
set_option maxRecDepth 100000 in
theorem end_calls (gf : Nat) (fn rg : Int) (Ab : Option Addr) (cb gw : Nat) (bs : List S43) (V : Nat → RS) (b : Nat) (hb : b < bs.length) (w : World) (h : Flow w gf fn rg Ab cb gw bs V) :
    Calls Try.prog 29 #[.pointer (some ⟨gf, 0, none⟩), .int .i64 b] w fun e w' => e = .returned (setV (endd bs.length V (rd_T43 bs b).f2)) ∧ Below w.heap.size w w' := by
  obtain ⟨ad, A1, c1, A2, c2, e, hx0, hx1, hx2, l1, g1, l2, g2⟩ := rd_block h.code (Below.refl _ w) b hb
  subst e
  have u0 : w.cell? ⟨gf, 0, none⟩ = some (.int .i64 fn) := (blk_cell h.blk 0).trans rfl
  have u2 : w.cell? ⟨gf, 2, none⟩ = some (.slice (some ad) bs.length cb) := (blk_cell h.blk 2).trans rfl
  have u3 : w.cell? ⟨gf, 3, none⟩ = some (.slice (some ⟨gw, 0, none⟩) bs.length bs.length) := (blk_cell h.blk 3).trans rfl
  have HF := Aside0.mk h
  have HI := Aside0.mk g1
  have HN := Aside0.mk g2
  have U3 := Aside0.mk u3
  have hbi : (b : Int) < bs.length := by omega
  have hmxn : (rd_T43 bs b).f2.length ≤ 9223372036854775807 := Kd.C_max g2
  clear h g1 g2 l1 l2 hx0 hx1
  generalize (rd_T43 bs b).f2 = nx at hx2 HN hmxn
  generalize hnb : bs.length = nb at *
  have HNB := Aside0.mk hnb
  clear hnb
  go_enter Try.func29, Try.ntmps29
  go_wp2_with (first
    | ((with_reducible refine gate_dst (N := 4) rfl ?_); refine setAlloc_event rfl rfl rfl ?_; intro ga w1 hga hA1 hb1; have HG1 := Aside0.mk hga; have HA1 := Aside0.mk hA1; have HB1 := Aside0.mk hb1; replace u0 := pw_cell_below hb1 u0; replace u2 := pw_cell_below hb1 u2; replace u3 := pw_cell_below hb1 u3; replace hx2 := pw_cell_below hb1 hx2; clear hga hA1 hb1)
    | ((with_reducible refine gate_dst (N := 5) rfl ?_); refine setAlloc_event rfl rfl rfl ?_; intro gb w2 hgb hA2 hb2; have HG2 := Aside0.mk hgb; have HA2 := Aside0.mk hA2; have HB2 := Aside0.mk hb2; replace u0 := pw_cell_below hb2 u0; replace u2 := pw_cell_below hb2 u2; replace u3 := pw_cell_below hb2 u3; replace hx2 := pw_cell_below hb2 hx2; clear hgb hA2 hb2))
  have H0 : Aside0 (EW w w2 ga gb (endd nb V (nx.take 0))) := ⟨by
    have h1 : ga < w1.heap.size := blk_lt HA1.out
    exact ⟨below_step HB1.out HB2.out, at_below HA1.out HB2.out, HA2.out, by have := HG2.out; omega, HG1.out, Nat.le_trans HB1.out.size HG2.out⟩⟩
  clear HG1 HG2 HA1 HA2 HB1 HB2 u0 u2 u3 hx2
  go_loopw [18] (fun i wr => ∃ (k : Nat), k ≤ nx.length ∧ i = .int .i64 k ∧ Aside0 (EW w wr ga gb (endd nb V (nx.take k)))) (fun i _ => nx.length - (intOf i).toNat)
  case atStart => exact ⟨0, by omega, rfl, H0⟩
  case round =>
    clear H0
    obtain ⟨k, hk, rfl, HE⟩ := hrel
    by_cases hlt : k < nx.length
    · obtain ⟨ad2, e2, hx⟩ := Kd.at_int HN.out (k : Int) (by omega) (by omega)
      simp only [Int.toNat_natCast] at hx
      subst e2
      replace hx := pw_cell_below HE.out.below hx
      have HT := Aside0.mk (endd_take nb V nx k hlt)
      generalize rd nx k = y at hx HT
      by_cases h0 : 0 ≤ y
      · have hd0 : decide (0 ≤ y) = true := decide_eq_true h0
        have u3 := pw_cell_below HE.out.below U3.out
        by_cases h1 : y < nb
        · obtain ⟨m, rfl⟩ : ∃ m : Nat, y = m := ⟨y.toNat, by omega⟩
          have hd1 : decide ((m : Int) < nb) = true := decide_eq_true h1
          have hm : m < nb := by omega
          rw [if_pos ⟨h0, h1⟩, Int.toNat_natCast] at HT
          have HM : Aside0 (m < bs.length) := ⟨by rw [HNB.out]; exact hm⟩
          obtain ⟨a0, a1, a2, a3, a4, a5, a6, a7⟩ := cells_below (ws_cells HF.out.ws m HM.out) HE.out.below
          obtain ⟨s0, s1, s2, s3, s4, s5, s6, s7, f0, f1, f2, f3, f4, f5, f6, f7⟩ := cells8 HE.out.sb
          clear f0 f1 f2 f3 f4 f5 f6 f7
          go_wp2_with fail
          go_region_with (go_at_call 52; refine (with_calls (endd nb V (nx.take k)) (V m) (HF.out.regs m HM.out) _).mono ?_; rintro e w7 ⟨rfl, hb0⟩; have hb := below_step (below_drew (Below.refl _ wr)) hb0; obtain ⟨r0, r1, r2, r3, r4, r5, r6, r7, f0, f1, f2, f3, f4, f5, f6, f7⟩ := cells8 (at_below HE.out.sb hb); have HBD := Aside0.mk hb; clear hb hb0; simp only [setV, cellsV, u64])
          all_goals (
            have HP : Aside0 (EW w (put8 w7 gb (join (endd nb V (nx.take k)) (V m))) ga gb (endd nb V (nx.take (k + 1)))) := (⟨by
              rw [HT.out]
              exact HE.out.put (put8_at (at_below HE.out.sb HBD.out) _) (grown_trans (grown_of_below HBD.out _) (put8_grown _ _ _))⟩)
            clear a0 a1 a2 a3 a4 a5 a6 a7 s0 s1 s2 s3 s4 s5 s6 s7 r0 r1 r2 r3 r4 r5 r6 r7 f0 f1 f2 f3 f4 f5 f6 f7 HE u3 hx
            go_wp2_with fail
            go_roundw
            case rel => exact ⟨k + 1, by omega, by go_num, HP⟩
            case measure => simp [intOf]; omega)
        · have hd1 : decide (y < (nb : Int)) = false := decide_eq_false h1
          rw [if_neg (fun hh => h1 hh.2), join_none] at HT
          go_wp2_with fail
          go_roundw
          case rel => exact ⟨k + 1, by omega, by go_num, ⟨by rw [HT.out]; exact HE.out⟩⟩
          case measure => simp [intOf]; omega
      · have hd0 : decide (0 ≤ y) = false := decide_eq_false h0
        rw [if_neg (fun hh => h0 hh.1), join_none] at HT
        go_wp2_with fail
        go_roundw
        case rel => exact ⟨k + 1, by omega, by go_num, ⟨by rw [HT.out]; exact HE.out⟩⟩
        case measure => simp [intOf]; omega
    · obtain rfl : k = nx.length := by omega
      rw [List.take_length] at HE
      go_wp2_with (first
        | (refine setLoad_event rfl rfl rfl rfl HE.out.sb ?_)
        | (refine setStore_event rfl rfl rfl rfl rfl HE.out.sa ?_; intro w5 hA5 hg5; have HA5 := Aside0.mk hA5; have HB5 := Aside0.mk (HE.out.below.grown hg5 HE.out.below.size (fun k hk => by cases hk; exact HE.out.la)); clear hA5 hg5))
      refine bodyPost_ret (results_cell_row rfl _ _ ga 64 (cellsV _) (0, 0) _ rfl HA5.out Try.underlying64 rfl (by kernel_rfl)) rfl ?_
      exact ⟨rfl, HB5.out⟩
end Go.Proofs.Ytklknkfoafdgpaa.LiveEnd
