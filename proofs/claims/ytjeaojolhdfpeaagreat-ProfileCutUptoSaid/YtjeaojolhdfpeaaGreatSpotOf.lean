/- profile.spotOf: a spot is read field by field; the first error ends it. -/
import Derived.Test.YtjeaojolhdfpeaaGreatMethods
import Derived.RegionCalls
namespace Go.Proofs.YtjeaojolhdfpeaaGreat.SpotOf
open Go.RowKit Go.Proofs.YtjeaojolhdfpeaaGreatW.PrintWords Go.Proofs.YtjeaojolhdfpeaaGreatW.PrintLast Go.Proofs.YtjeaojolhdfpeaaGreatW.PrintMore
open Go.Proofs.YtjeaojolhdfpeaaGreat.PProfileCut Go.Proofs.YtjeaojolhdfpeaaGreat.Reader Go.Proofs.YtjeaojolhdfpeaaGreat.Methods
set_option linter.unusedVariables false
set_option linter.unusedSimpArgs false

def okSpot (s : S51) : Bool := decide (0 ≤ s.f0) && (decide (s.f1 ≤ 1023) && (decide (s.f2 ≤ 1023) && (decide (-1 ≤ s.f3) && decide (s.f3 ≤ 128))))
theorem check_yes (s : S51) (h : okSpot s = true) : profile_check.f s.f0 s.f1 s.f2 s.f3 = some 0 := by
  simp only [okSpot, Bool.and_eq_true, decide_eq_true_eq] at h
  unfold profile_check.f
  rw [if_neg (by omega), if_neg (by omega), if_neg (by omega), if_neg (by omega), if_neg (by omega)]
theorem check_no (s : S51) (h : okSpot s = false) : profile_check.f s.f0 s.f1 s.f2 s.f3 = some 1 := by
  unfold profile_check.f
  by_cases h0 : s.f0 < 0
  · rw [if_pos h0]
  by_cases h1 : s.f1 > 1023
  · rw [if_neg h0, if_pos h1]
  by_cases h2 : s.f2 > 1023
  · rw [if_neg h0, if_neg h1, if_pos h2]
  by_cases h3 : s.f3 < -1
  · rw [if_neg h0, if_neg h1, if_neg h2, if_pos h3]
  by_cases h4 : s.f3 > 128
  · rw [if_neg h0, if_neg h1, if_neg h2, if_neg h3, if_pos h4]
  exfalso
  have : okSpot s = true := by
    simp only [okSpot, Bool.and_eq_true, decide_eq_true_eq]
    omega
  rw [h] at this
  cases this

/-- A field is stored. -/
def setF (s : S51) (i : Nat) (x : Int) : S51 :=
  match i with
  | 0 => ⟨wrap64 x, s.f1, s.f2, s.f3⟩
  | 1 => ⟨s.f0, if 32768 < x then 32768 else x, s.f2, s.f3⟩
  | 2 => ⟨s.f0, s.f1, if 32768 < x then 32768 else x, s.f3⟩
  | _ => ⟨s.f0, s.f1, s.f2, x⟩
/-- The fields from 4 - d on: the error, the spot, the place. -/
def fieldsR (bs : List Int) (fl : Int) : Nat → S51 → Nat → Int × S51 × Nat
  | 0, s, a => (0, s, a)
  | d + 1, s, a =>
    if fl / 2 ^ (3 - d) % 2 = 0 then fieldsR bs fl d s a
    else if (uintR bs a 0).2.2 ≠ 0 then ((uintR bs a 0).2.2, s, a)
    else if (uintR bs a 0).1 = 0 then (4, s, a)
    else if okSpot (setF s (3 - d) (if d = 0 then Nums3.unzig (uintR bs a 0).1 else (uintR bs a 0).1)) = true then
      fieldsR bs fl d (setF s (3 - d) (if d = 0 then Nums3.unzig (uintR bs a 0).1 else (uintR bs a 0).1)) (uintR bs a 0).2.1
    else (1, s, a)
def z51 : S51 := ⟨0, 0, 0, 0⟩
def spotR (bs : List Int) (a : Nat) : Int × S51 × Nat :=
  if a < bs.length then if rd bs (a : Int) > 15 then (4, z51, a) else fieldsR bs (rd bs (a : Int)) 4 z51 (a + 1) else (2, z51, a)
/-- What spotOf leaves. -/
def Spotted (w0 w : World) (g : Nat) (bs : List Int) (R : Int × S51 × Nat) (e : Ending) (w' : World) : Prop :=
  ∃ s : S51, e = .returned (.tuple #[.agg #[.int .i64 s.f0, .int .u16 s.f1, .int .u16 s.f2, .int .i64 s.f3], .int .i64 R.1]) ∧ (R.1 = 0 → s = R.2.1) ∧ ∃ (a' : Nat) (e' : Int), Moved w0 w w' g bs a' e' ∧ (R.1 = 0 → a' = R.2.2 ∧ e' = 0)
def cells (s : S51) : Obj := .cells #[.int .i64 s.f0, .int .u16 s.f1, .int .u16 s.f2, .int .i64 s.f3] 51 (0, 0)

theorem cell4 {W : World} {k : Nat} {s : S51} (h : W.heap[k]? = some (cells s)) : W.cell? ⟨k, 0, none⟩ = some (.int .i64 s.f0) ∧ W.cell? ⟨k, 1, none⟩ = some (.int .u16 s.f1) ∧ W.cell? ⟨k, 2, none⟩ = some (.int .u16 s.f2) ∧ W.cell? ⟨k, 3, none⟩ = some (.int .i64 s.f3) ∧ W.frozen? ⟨k, 0, none⟩ = false ∧ W.frozen? ⟨k, 1, none⟩ = false ∧ W.frozen? ⟨k, 2, none⟩ = false ∧ W.frozen? ⟨k, 3, none⟩ = false :=
  ⟨(blk_cell h 0).trans rfl, (blk_cell h 1).trans rfl, (blk_cell h 2).trans rfl, (blk_cell h 3).trans rfl, blk_frozen h 0, blk_frozen h 1, blk_frozen h 2, blk_frozen h 3⟩
/-- A block that is new since is written. -/
theorem far {w0 w w1 : World} {g k j : Nat} {bs : List Int} {a e : Int} (h : Moved w0 w w1 g bs a e) (hk : w.heap.size ≤ k) (hne : k ≠ g) (hw : w0.heap.size ≤ w.heap.size) (u : Value) : Moved w0 w (w1.setCell ⟨k, j, none⟩ u) g bs a e :=
  ⟨h.rd.far (p := ⟨k, j, none⟩) (fun he => hne he.symm) u, below_set h.below (Nat.le_trans hw hk), by have := h.keep.1; simpa [World.setCell] using this, fun i hi hg hr => (Below.heap_setCell w1 ⟨k, j, none⟩ u i (by simp only; omega)).trans (h.keep.2 i hi hg hr)⟩
/-- A spot is stored whole. -/
def put4 (W : World) (k : Nat) (s : S51) : World := (((W.setCell ⟨k, 0, none⟩ (.int .i64 s.f0)).setCell ⟨k, 1, none⟩ (.int .u16 s.f1)).setCell ⟨k, 2, none⟩ (.int .u16 s.f2)).setCell ⟨k, 3, none⟩ (.int .i64 s.f3)
theorem put4_blk {W : World} {k : Nat} {s0 : S51} (h : W.heap[k]? = some (cells s0)) (s : S51) : (put4 W k s).heap[k]? = some (cells s) := by
  have := blk_set (blk_set (blk_set (blk_set h 0 (.int .i64 s.f0)) 1 (.int .u16 s.f1)) 2 (.int .u16 s.f2)) 3 (.int .i64 s.f3)
  simpa [cells, put4] using this
theorem far4 {w0 w w1 : World} {g k : Nat} {bs : List Int} {a e : Int} (h : Moved w0 w w1 g bs a e) (hk : w.heap.size ≤ k) (hne : k ≠ g) (hw : w0.heap.size ≤ w.heap.size) (s : S51) : Moved w0 w (put4 w1 k s) g bs a e :=
  far (far (far (far h hk hne hw _) hk hne hw _) hk hne hw _) hk hne hw _
/-- How spotOf returns: the result lies in block k. -/
theorem ends {w0 w W : World} {g k : Nat} {bs : List Int} {R : Int × S51 × Nat} {s : S51} {a' : Nat} {e' : Int} {tmps : Array Value} (hk : W.heap[k]? = some (cells s)) (ht : tmps.getD 2 undef = .pointer (some ⟨k, 0, none⟩)) (hr : tmps.getD 3 undef = .int .i64 R.1)
    (hs : R.1 = 0 → s = R.2.1) (hm : Moved w0 w W g bs a' e') (he : R.1 = 0 → a' = R.2.2 ∧ e' = 0) : bodyPost Tryz.prog Tryz.f56 (Spotted w0 w g bs R) Exit.ret { tmps := tmps, defers := [] } W := by
  refine bodyPost_ret (results_ct rfl _ _ k 51 #[.int .i64 s.f0, .int .u16 s.f1, .int .u16 s.f2, .int .i64 s.f3] (0, 0) _ ht hk Tryz.underlying51 rfl (by kernel_rfl)) rfl ⟨s, by rw [hr], hs, a', e', hm, he⟩
theorem on {w0 w w1 w2 : World} {g : Nat} {bs : List Int} {a e : Int} (h : Moved w0 w w1 g bs a e) (hb : Below w1.heap.size w1 w2) : Moved w0 w w2 g bs a e := ⟨h.rd.below hb, below_then h.below h.below.size hb, h.keep.trans (KeepBut.of_below hb g none) (.inl rfl)⟩
theorem put_0 {W : World} {k : Nat} {s : S51} (h : W.heap[k]? = some (cells s)) (x : Int) : (W.setCell ⟨k, 0, none⟩ (.int .i64 (wrap64 x))).heap[k]? = some (cells (setF s 0 x)) := by
  have := blk_set h 0 (.int .i64 (wrap64 x))
  simpa [cells, setF] using this
theorem put_1 {W : World} {k : Nat} {s : S51} (h : W.heap[k]? = some (cells s)) (x : Int) : (W.setCell ⟨k, 1, none⟩ (.int .u16 (if 32768 < x then 32768 else x))).heap[k]? = some (cells (setF s 1 x)) := by
  have := blk_set h 1 (.int .u16 (if 32768 < x then 32768 else x))
  simpa [cells, setF] using this
theorem put_2 {W : World} {k : Nat} {s : S51} (h : W.heap[k]? = some (cells s)) (x : Int) : (W.setCell ⟨k, 2, none⟩ (.int .u16 (if 32768 < x then 32768 else x))).heap[k]? = some (cells (setF s 2 x)) := by
  have := blk_set h 2 (.int .u16 (if 32768 < x then 32768 else x))
  simpa [cells, setF] using this
theorem put_3 {W : World} {k : Nat} {s : S51} (h : W.heap[k]? = some (cells s)) (x : Int) : (W.setCell ⟨k, 3, none⟩ (.int .i64 x)).heap[k]? = some (cells (setF s 3 x)) := by
  have := blk_set h 3 (.int .i64 x)
  simpa [cells, setF] using this
theorem uintR_le (bs : List Int) (a : Nat) (err : Int) (hb : Bytes bs) (ha : a ≤ bs.length) : (uintR bs a err).2.1 ≤ bs.length ∧ 0 ≤ (uintR bs a err).1 ∧ (uintR bs a err).1 < 18446744073709551616 := by
  have h := num_range bs a hb
  unfold uintR rdNum
  repeat' split
  all_goals simp only
  all_goals omega
theorem unzig_range (x : Int) (h : 0 ≤ x ∧ x < 18446744073709551616) : -9223372036854775808 ≤ Nums3.unzig x ∧ Nums3.unzig x ≤ 9223372036854775807 ∧ (Nums3.unzig x = 0 ↔ x = 0) := by
  unfold Nums3.unzig
  split <;> omega
theorem mask : ∀ fl : Fin 16, ∀ i : Fin 4, bits .and .u8 ((fl.val : Nat) : Int) (2 ^ i.val) = if ((fl.val : Nat) : Int) / 2 ^ i.val % 2 = 0 then 0 else 2 ^ i.val := by decide

/-- What the flag's byte comes to. -/
theorem byte_range (bs : List Int) (a : Nat) (hb : Bytes bs) (ha : a ≤ bs.length) : 0 ≤ (byteR bs a 0).1 ∧ (byteR bs a 0).1 < 256 ∧ (byteR bs a 0).2.1 ≤ bs.length ∧ ((byteR bs a 0).2.2 = 0 ∨ (byteR bs a 0).2.2 = 2 ∧ (byteR bs a 0).1 = 0) := by
  have h := bytes_rd hb a
  unfold byteR rdNum
  rw [if_neg (by simp)]
  by_cases h2 : a < bs.length
  · rw [if_pos h2, if_pos rfl]
    exact ⟨h.1, h.2, by simp only; omega, .inl rfl⟩
  · rw [if_neg h2, if_neg (by decide)]
    exact ⟨by simp, by simp, ha, .inr ⟨rfl, rfl⟩⟩
theorem spotR_eq (bs : List Int) (a : Nat) : spotR bs a = if (byteR bs a 0).2.2 = 0 then if (byteR bs a 0).1 > 15 then (4, z51, a) else fieldsR bs (byteR bs a 0).1 4 z51 (byteR bs a 0).2.1 else (2, z51, a) := by
  unfold spotR byteR rdNum
  by_cases h2 : a < bs.length <;> simp [h2]

set_option maxHeartbeats 8000000 in
set_option maxRecDepth 100000 in
theorem spotOf (g : Nat) (bs : List Int) (a : Nat) (w0 w : World) (hI : Rd w0 w g bs a 0) (hB : Below w0.heap.size w0 w) (hb : Bytes bs) (ha : a ≤ bs.length) :
    Calls Tryz.prog 56 #[.pointer (some ⟨g, 0, none⟩)] w (Spotted w0 w g bs (spotR bs a)) := by
  have hlt : g < w.heap.size := by
    obtain ⟨A, c, h0, _⟩ := Reader.look hI
    exact World.block_lt_of_cell? w _ h0
  have HM := Aside0.mk ((Moved.refl hI hB).alloc (.cells #[.int .i64 0, .int .u16 0, .int .u16 0, .int .i64 0] 51))
  have BR : Aside0 ((w.alloc (.cells #[.int .i64 0, .int .u16 0, .int .u16 0, .int .i64 0] 51)).heap[w.heap.size]? = some (cells z51)) := ⟨blk_new _ _⟩
  have hww := hB.size
  clear hI hB
  have HBy := Aside0.mk (byte g bs a 0 w0 _ HM.out.rd HM.out.below)
  have hbr := byte_range bs a hb ha
  rw [spotR_eq]
  obtain ⟨⟨fl, a1, e0⟩, hr⟩ : ∃ r, r = byteR bs a 0 := ⟨_, rfl⟩
  rw [← hr] at HBy hbr ⊢
  clear hr
  simp only at HBy hbr ⊢
  by_cases hfl : fl > 15
  · have he0 : e0 = 0 := by omega
    rw [if_pos he0, if_pos hfl]
    have b1 : decide (15 < fl) = true := decide_eq_true hfl
    go_enter Tryz.func56, Tryz.ntmps56
    go_wp2_with (go_at_call 103; refine HBy.out.mono ?_; rintro e w1 ⟨rfl, hm⟩; have HM1 := Aside0.mk (HM.out.trans hm); have BR1 := Aside0.mk (Reader137.Moved.blk hm BR.out (by omega)); clear hm; obtain ⟨c0, c1, c2, c3, f0, f1, f2, f3⟩ := cell4 BR1.out)
    try simp only [Exit.inBlock, Exit.then]
    exact ends (s := z51) (put4_blk BR1.out z51) rfl rfl (fun h => by cases h) (far4 HM1.out (Nat.le_refl _) (by omega) hww z51) (fun h => by cases h)
  · rw [if_neg hfl]
    obtain ⟨R, hR⟩ : ∃ R, R = (if e0 = 0 then fieldsR bs fl 4 z51 a1 else (2, z51, a)) := ⟨_, rfl⟩
    rw [← hR]
    have HR : Aside0 ((e0 = 0 ∧ fieldsR bs fl 4 z51 a1 = R) ∨ (e0 ≠ 0 ∧ fl = 0 ∧ R.1 = e0)) := ⟨by
      rcases hbr.2.2.2 with h | ⟨h, h2⟩
      · exact .inl ⟨h, by rw [hR, if_pos h]⟩
      · exact .inr ⟨by omega, h2, by rw [hR, if_neg (by omega), h]⟩⟩
    clear hR
    have ha1 := hbr.2.2.1
    have b1 : decide (15 < fl) = false := decide_eq_false hfl
    obtain ⟨fn, hfn⟩ : ∃ fn : Fin 16, ((fn.val : Nat) : Int) = fl := ⟨⟨fl.toNat, by omega⟩, by simp; omega⟩
    have hmask := mask fn
    rw [hfn] at hmask
    have HMask := Aside0.mk hmask
    clear hmask hfn hbr
    go_enter Tryz.func56, Tryz.ntmps56
    go_wp2_with (go_at_call 103; refine HBy.out.mono ?_; rintro e w1 ⟨rfl, hm⟩; have HM1 := Aside0.mk ((HM.out.trans hm).alloc (.cells #[.int .i64 0, .int .u16 0, .int .u16 0, .int .i64 0] 51)); have BR1 := Aside0.mk (blk_alloc (Reader137.Moved.blk hm BR.out (by omega)) (.cells #[.int .i64 0, .int .u16 0, .int .u16 0, .int .i64 0] 51)); have BS1 : Aside0 ((w1.alloc (.cells #[.int .i64 0, .int .u16 0, .int .u16 0, .int .i64 0] 51)).heap[w1.heap.size]? = some (cells z51)) := ⟨blk_new _ _⟩; have hsz := hm.keep.1; clear hm)
    simp at hsz
    generalize w1.alloc (.cells #[.int .i64 0, .int .u16 0, .int .u16 0, .int .i64 0] 51) = W at HM1 BR1 BS1 ⊢
    obtain ⟨sb, hsb⟩ : ∃ sb, sb = w1.heap.size := ⟨_, rfl⟩
    rw [← hsb] at BS1 hsz ⊢
    clear hsb HM BR HBy
    go_loopw [14] (fun i wr => ∃ (d : Nat) (s : S51) (a : Nat), d ≤ 4 ∧ a ≤ bs.length ∧ i = .int .i64 ((4 - d : Nat) : Int) ∧ Aside0 ((e0 = 0 ∧ fieldsR bs fl d s a = R) ∨ (e0 ≠ 0 ∧ fl = 0 ∧ R.1 = e0)) ∧ Aside0 (Moved w0 w wr g bs a e0) ∧ Aside0 (wr.heap[w.heap.size]? = some (cells z51)) ∧ Aside0 (wr.heap[sb]? = some (cells s))) (fun i _ => 4 - (intOf i).toNat)
    case atStart => exact ⟨4, z51, a1, by omega, ha1, rfl, HR, HM1, BR1, BS1⟩
    case round =>
      clear HR HM1 BR1 BS1
      obtain ⟨d, s, a2, hd, ha2, rfl, HR, HM, BR, BS⟩ := hrel
      rcases (by omega : d = 0 ∨ d = 1 ∨ d = 2 ∨ d = 3 ∨ d = 4) with rfl | rfl | rfl | rfl | rfl
      · have hR : R.1 = e0 ∧ (R.1 = 0 → s = R.2.1) ∧ (R.1 = 0 → a2 = R.2.2 ∧ e0 = 0) := by
          rcases HR.out with ⟨h, h2⟩ | ⟨h, _, h2⟩
          · rw [← h2, h]; exact ⟨rfl, fun _ => rfl, fun _ => ⟨rfl, rfl⟩⟩
          · rw [h2]; exact ⟨rfl, fun h3 => absurd h3 h, fun h3 => absurd h3 h⟩
        obtain ⟨c0, c1, c2, c3, f0, f1, f2, f3⟩ := cell4 BR.out
        obtain ⟨d0, d1, d2, d3, _, _, _, _⟩ := cell4 BS.out
        obtain ⟨A, c, h0, h1, h2, _, _, _⟩ := Reader.look HM.out.rd
        go_wp2_with fail
        go_region_calls
        all_goals go_wp2
        all_goals try simp only [Exit.inBlock, Exit.then]
        all_goals exact ends (s := s) (blk_drew (put4_blk BR.out s)) rfl (by rw [hR.1]; rfl) hR.2.1 (far4 HM.out (Nat.le_refl _) (by omega) hww s).drew hR.2.2
      · -- field 3
        have hms : bits .and .u8 fl 8 = if fl / 2 ^ 3 % 2 = 0 then 0 else 8 := HMask.out 3
        by_cases hbit : fl / 2 ^ 3 % 2 = 0
        · have hm0 : bits .and .u8 fl 8 = 0 := by rw [hms, if_pos hbit]
          go_wp2_with fail
          go_roundw
          case rel => exact ⟨0, s, a2, by omega, ha2, by rfl, ⟨by
            rcases HR.out with ⟨h, h2⟩ | h
            · exact .inl ⟨h, by rw [← h2]; simp only [fieldsR]; rw [if_pos hbit]⟩
            · exact .inr h⟩, HM, BR, BS⟩
          case measure => simp [intOf]
        · obtain ⟨he0, hfr⟩ : e0 = 0 ∧ fieldsR bs fl 1 s a2 = R := by
            rcases HR.out with h | ⟨_, h, _⟩
            · exact h
            · exact absurd (by rw [h]; rfl) hbit
          subst he0
          simp only [fieldsR] at hfr
          rw [if_neg hbit] at hfr
          have hm1 : bits .and .u8 fl 8 = 8 := by rw [hms, if_neg hbit]
          have HU := Aside0.mk (int_ g bs a2 0 w0 _ HM.out.rd HM.out.below hb ha2)
          have hu := uintR_le bs a2 0 hb ha2
          obtain ⟨⟨x, n, e'⟩, hr⟩ : ∃ r, r = uintR bs a2 0 := ⟨_, rfl⟩
          rw [← hr] at HU hu hfr
          clear hr hms hbit HR
          simp only at HU hu hfr
          have hz := unzig_range x hu.2
          have hz2 : wrap64 (IntKind.u64.wrap (Nums3.unzig x)) = Nums3.unzig x := by unfold wrap64; rw [IntKind.wrap_u64]; omega
          by_cases he : e' = 0
          · rw [if_neg (by simpa using he)] at hfr
            subst he
            by_cases hx : x = 0
            · rw [if_pos hx] at hfr
              have HF := Aside0.mk hfr
              have hx2 : Nums3.unzig x = 0 := hz.2.2.2 hx
              rw [hx2] at HU
              clear hfr
              go_wp2_with (first | (go_at_call 105; refine HU.out.mono ?_; rintro e w1 ⟨rfl, hm⟩; have HM1 := Aside0.mk (HM.out.trans hm); have BR1 := Aside0.mk (Reader137.Moved.blk hm BR.out (by omega)); have BS1 := Aside0.mk (Reader137.Moved.blk hm BS.out (by omega)); clear hm) | (go_at_call 54; refine (wire_Reader_Err.calls g bs _ _ _ _ _ w0 w1 HM1.out.rd HM1.out.below rfl).mono ?_; rintro e w2 ⟨rfl, hi, hb2, hk⟩; have HM2 := Aside0.mk (HM1.out.trans ⟨hi, hb2, hk⟩); have BR2 := Aside0.mk (Reader137.Moved.blk (e := 0) ⟨hi, hb2, hk⟩ BR1.out (by omega)); have BS2 := Aside0.mk (Reader137.Moved.blk (e := 0) ⟨hi, hb2, hk⟩ BS1.out (by omega)); clear hi hb2 hk; obtain ⟨c0, c1, c2, c3, f0, f1, f2, f3⟩ := cell4 BR2.out; obtain ⟨d0, d1, d2, d3, _, _, _, _⟩ := cell4 BS2.out))
              try simp only [Exit.inBlock, Exit.then]
              exact ends (s := s) (put4_blk BR2.out s) rfl (by rw [← HF.out]; rfl) (fun h => by rw [← HF.out] at h; cases h) (far4 HM2.out (Nat.le_refl _) (by omega) hww s) (fun h => by rw [← HF.out] at h; cases h)
            · rw [if_neg hx] at hfr
              replace hfr : (if okSpot (setF s 3 (Nums3.unzig x)) = true then fieldsR bs fl 0 (setF s 3 (Nums3.unzig x)) n else (1, s, a2)) = R := hfr
              have HF := Aside0.mk hfr
              clear hfr
              have b3 : (IntKind.u64.wrap (Nums3.unzig x) == 0) = false := by
                have h9 : Nums3.unzig x ≠ 0 := fun h => hx (hz.2.2.1 h)
                rw [IntKind.wrap_u64]
                simp only [beq_eq_false_iff_ne, ne_eq]
                omega
              by_cases hok : okSpot (setF s 3 (Nums3.unzig x)) = true
              · have HC := Aside0.mk (check_yes _ hok)
                go_wp2_with (first | (go_at_call 105; refine HU.out.mono ?_; rintro e w1 ⟨rfl, hm⟩; have HM1 := Aside0.mk (HM.out.trans hm); have BR1 := Aside0.mk (Reader137.Moved.blk hm BR.out (by omega)); have BS1 := Aside0.mk (Reader137.Moved.blk hm BS.out (by omega)); clear hm) | (go_at_call 54; refine (wire_Reader_Err.calls g bs _ _ _ _ _ w0 w1 HM1.out.rd HM1.out.below rfl).mono ?_; rintro e w2 ⟨rfl, hi, hb2, hk⟩; have HM2 := Aside0.mk (HM1.out.trans ⟨hi, hb2, hk⟩); have BR2 := Aside0.mk (Reader137.Moved.blk (e := 0) ⟨hi, hb2, hk⟩ BR1.out (by omega)); have BS2 := Aside0.mk (Reader137.Moved.blk (e := 0) ⟨hi, hb2, hk⟩ BS1.out (by omega)); clear hi hb2 hk; obtain ⟨c0, c1, c2, c3, f0, f1, f2, f3⟩ := cell4 BR2.out; obtain ⟨d0, d1, d2, d3, g0, g1, g2, g3⟩ := cell4 BS2.out) | (go_at_call 49; refine (profile_check.calls _ _ _ _ 0 _ HC.out).mono ?_; rintro e w3 ⟨rfl, hb3⟩; have HM3 := Aside0.mk (on (far HM2.out (by omega) (by omega) hww _) hb3); have BS3 := Aside0.mk (blk_below (put_3 BS2.out (Nums3.unzig x)) hb3); have BR3 := Aside0.mk (blk_below (blk_far BR2.out (by simp only; omega) _) hb3); clear hb3))
                go_roundw
                case rel => exact ⟨0, setF s 3 (Nums3.unzig x), n, by omega, hu.1, by rfl, ⟨by have h9 := HF.out; rw [if_pos hok] at h9; first | exact .inl ⟨rfl, h9⟩ | exact .inl ⟨trivial, h9⟩⟩, HM3, BR3, BS3⟩
                case measure => simp [intOf]
              · have HC := Aside0.mk (check_no _ (by simpa using hok))
                rw [if_neg hok] at HF
                go_wp2_with (first | (go_at_call 105; refine HU.out.mono ?_; rintro e w1 ⟨rfl, hm⟩; have HM1 := Aside0.mk (HM.out.trans hm); have BR1 := Aside0.mk (Reader137.Moved.blk hm BR.out (by omega)); have BS1 := Aside0.mk (Reader137.Moved.blk hm BS.out (by omega)); clear hm) | (go_at_call 54; refine (wire_Reader_Err.calls g bs _ _ _ _ _ w0 w1 HM1.out.rd HM1.out.below rfl).mono ?_; rintro e w2 ⟨rfl, hi, hb2, hk⟩; have HM2 := Aside0.mk (HM1.out.trans ⟨hi, hb2, hk⟩); have BR2 := Aside0.mk (Reader137.Moved.blk (e := 0) ⟨hi, hb2, hk⟩ BR1.out (by omega)); have BS2 := Aside0.mk (Reader137.Moved.blk (e := 0) ⟨hi, hb2, hk⟩ BS1.out (by omega)); clear hi hb2 hk; obtain ⟨c0, c1, c2, c3, f0, f1, f2, f3⟩ := cell4 BR2.out; obtain ⟨d0, d1, d2, d3, g0, g1, g2, g3⟩ := cell4 BS2.out) | (go_at_call 49; refine (profile_check.calls _ _ _ _ 1 _ HC.out).mono ?_; rintro e w3 ⟨rfl, hb3⟩; have HM3 := Aside0.mk (on (far HM2.out (by omega) (by omega) hww _) hb3); have BS3 := Aside0.mk (blk_below (put_3 BS2.out (Nums3.unzig x)) hb3); have BR3 := Aside0.mk (blk_below (blk_far BR2.out (by simp only; omega) _) hb3); clear hb3; clear c0 c1 c2 c3 f0 f1 f2 f3 d0 d1 d2 d3 g0 g1 g2 g3; obtain ⟨c0, c1, c2, c3, f0, f1, f2, f3⟩ := cell4 BR3.out; obtain ⟨d0, d1, d2, d3, g0, g1, g2, g3⟩ := cell4 BS3.out))
                all_goals try simp only [Exit.inBlock, Exit.then]
                all_goals exact ends (s := setF s 3 (Nums3.unzig x)) (put4_blk BR3.out _) rfl (by rw [← HF.out]; rfl) (fun h => by rw [← HF.out] at h; cases h) (far4 HM3.out (Nat.le_refl _) (by omega) hww _) (fun h => by rw [← HF.out] at h; cases h)
          · rw [if_pos (by simpa using he)] at hfr
            have HF := Aside0.mk hfr
            clear hfr
            have b4 : (e' != 0) = true := by simpa using he
            go_wp2_with (first | (go_at_call 105; refine HU.out.mono ?_; rintro e w1 ⟨rfl, hm⟩; have HM1 := Aside0.mk (HM.out.trans hm); have BR1 := Aside0.mk (Reader137.Moved.blk hm BR.out (by omega)); have BS1 := Aside0.mk (Reader137.Moved.blk hm BS.out (by omega)); clear hm) | (go_at_call 54; refine (wire_Reader_Err.calls g bs _ _ _ _ _ w0 w1 HM1.out.rd HM1.out.below rfl).mono ?_; rintro e w2 ⟨rfl, hi, hb2, hk⟩; have HM2 := Aside0.mk (HM1.out.trans ⟨hi, hb2, hk⟩); have BR2 := Aside0.mk (Reader137.Moved.blk (e := e') ⟨hi, hb2, hk⟩ BR1.out (by omega)); have BS2 := Aside0.mk (Reader137.Moved.blk (e := e') ⟨hi, hb2, hk⟩ BS1.out (by omega)); clear hi hb2 hk; obtain ⟨c0, c1, c2, c3, f0, f1, f2, f3⟩ := cell4 BR2.out; obtain ⟨d0, d1, d2, d3, g0, g1, g2, g3⟩ := cell4 BS2.out))
            obtain ⟨A, c, h0, h1, h2, _, _, _⟩ := Reader.look HM2.out.rd
            go_region_calls
            all_goals go_wp2
            all_goals try simp only [Exit.inBlock, Exit.then]
            all_goals exact ends (s := s) (blk_drew (put4_blk BR2.out s)) rfl (by rw [← HF.out]; rfl) (fun h => by rw [← HF.out] at h; exact absurd h he) (far4 HM2.out (Nat.le_refl _) (by omega) hww s).drew (fun h => by rw [← HF.out] at h; exact absurd h he)
      · -- field 2
        have hms : bits .and .u8 fl 4 = if fl / 2 ^ 2 % 2 = 0 then 0 else 4 := HMask.out 2
        by_cases hbit : fl / 2 ^ 2 % 2 = 0
        · have hm0 : bits .and .u8 fl 4 = 0 := by rw [hms, if_pos hbit]
          go_wp2_with fail
          go_roundw
          case rel => exact ⟨1, s, a2, by omega, ha2, by rfl, ⟨by
            rcases HR.out with ⟨h, h2⟩ | h
            · exact .inl ⟨h, by rw [← h2]; simp only [fieldsR]; rw [if_pos hbit]⟩
            · exact .inr h⟩, HM, BR, BS⟩
          case measure => simp [intOf]
        · obtain ⟨he0, hfr⟩ : e0 = 0 ∧ fieldsR bs fl 2 s a2 = R := by
            rcases HR.out with h | ⟨_, h, _⟩
            · exact h
            · exact absurd (by rw [h]; rfl) hbit
          subst he0
          simp only [fieldsR] at hfr
          rw [if_neg hbit] at hfr
          have hm1 : bits .and .u8 fl 4 = 4 := by rw [hms, if_neg hbit]
          have HU := Aside0.mk (uint g bs a2 0 w0 _ HM.out.rd HM.out.below hb ha2)
          have hu := uintR_le bs a2 0 hb ha2
          obtain ⟨⟨x, n, e'⟩, hr⟩ : ∃ r, r = uintR bs a2 0 := ⟨_, rfl⟩
          rw [← hr] at HU hu hfr
          clear hr hms hbit HR
          simp only at HU hu hfr
          skip
          by_cases he : e' = 0
          · rw [if_neg (by simpa using he)] at hfr
            subst he
            by_cases hx : x = 0
            · rw [if_pos hx] at hfr
              have HF := Aside0.mk hfr
              have b3 : (x == 0) = true := by simpa using hx
              clear hfr
              go_wp2_with (first | (go_at_call 104; refine HU.out.mono ?_; rintro e w1 ⟨rfl, hm⟩; have HM1 := Aside0.mk (HM.out.trans hm); have BR1 := Aside0.mk (Reader137.Moved.blk hm BR.out (by omega)); have BS1 := Aside0.mk (Reader137.Moved.blk hm BS.out (by omega)); clear hm) | (go_at_call 54; refine (wire_Reader_Err.calls g bs _ _ _ _ _ w0 w1 HM1.out.rd HM1.out.below rfl).mono ?_; rintro e w2 ⟨rfl, hi, hb2, hk⟩; have HM2 := Aside0.mk (HM1.out.trans ⟨hi, hb2, hk⟩); have BR2 := Aside0.mk (Reader137.Moved.blk (e := 0) ⟨hi, hb2, hk⟩ BR1.out (by omega)); have BS2 := Aside0.mk (Reader137.Moved.blk (e := 0) ⟨hi, hb2, hk⟩ BS1.out (by omega)); clear hi hb2 hk; obtain ⟨c0, c1, c2, c3, f0, f1, f2, f3⟩ := cell4 BR2.out; obtain ⟨d0, d1, d2, d3, _, _, _, _⟩ := cell4 BS2.out))
              try simp only [Exit.inBlock, Exit.then]
              exact ends (s := s) (put4_blk BR2.out s) rfl (by rw [← HF.out]; rfl) (fun h => by rw [← HF.out] at h; cases h) (far4 HM2.out (Nat.le_refl _) (by omega) hww s) (fun h => by rw [← HF.out] at h; cases h)
            · rw [if_neg hx] at hfr
              replace hfr : (if okSpot (setF s 2 x) = true then fieldsR bs fl 1 (setF s 2 x) n else (1, s, a2)) = R := hfr
              have HF := Aside0.mk hfr
              clear hfr
              have b3 : (x == 0) = false := by simpa using hx
              by_cases hok : okSpot (setF s 2 x) = true
              · have HC := Aside0.mk (check_yes _ hok)
                go_wp2_with (first | (go_at_call 104; refine HU.out.mono ?_; rintro e w1 ⟨rfl, hm⟩; have HM1 := Aside0.mk (HM.out.trans hm); have BR1 := Aside0.mk (Reader137.Moved.blk hm BR.out (by omega)); have BS1 := Aside0.mk (Reader137.Moved.blk hm BS.out (by omega)); clear hm) | (go_at_call 54; refine (wire_Reader_Err.calls g bs _ _ _ _ _ w0 w1 HM1.out.rd HM1.out.below rfl).mono ?_; rintro e w2 ⟨rfl, hi, hb2, hk⟩; have HM2 := Aside0.mk (HM1.out.trans ⟨hi, hb2, hk⟩); have BR2 := Aside0.mk (Reader137.Moved.blk (e := 0) ⟨hi, hb2, hk⟩ BR1.out (by omega)); have BS2 := Aside0.mk (Reader137.Moved.blk (e := 0) ⟨hi, hb2, hk⟩ BS1.out (by omega)); clear hi hb2 hk; obtain ⟨c0, c1, c2, c3, f0, f1, f2, f3⟩ := cell4 BR2.out; obtain ⟨d0, d1, d2, d3, g0, g1, g2, g3⟩ := cell4 BS2.out) | (go_at_call 49; refine (profile_check.calls _ _ _ _ 0 _ HC.out).mono ?_; rintro e w3 ⟨rfl, hb3⟩; have HM3 := Aside0.mk (on (far HM2.out (by omega) (by omega) hww _) hb3); have BS3 := Aside0.mk (blk_below (put_2 BS2.out x) hb3); have BR3 := Aside0.mk (blk_below (blk_far BR2.out (by simp only; omega) _) hb3); clear hb3))
                go_roundw
                case rel => exact ⟨1, setF s 2 x, n, by omega, hu.1, by rfl, ⟨by have h9 := HF.out; rw [if_pos hok] at h9; first | exact .inl ⟨rfl, h9⟩ | exact .inl ⟨trivial, h9⟩⟩, HM3, BR3, BS3⟩
                case measure => simp [intOf]
              · have HC := Aside0.mk (check_no _ (by simpa using hok))
                rw [if_neg hok] at HF
                go_wp2_with (first | (go_at_call 104; refine HU.out.mono ?_; rintro e w1 ⟨rfl, hm⟩; have HM1 := Aside0.mk (HM.out.trans hm); have BR1 := Aside0.mk (Reader137.Moved.blk hm BR.out (by omega)); have BS1 := Aside0.mk (Reader137.Moved.blk hm BS.out (by omega)); clear hm) | (go_at_call 54; refine (wire_Reader_Err.calls g bs _ _ _ _ _ w0 w1 HM1.out.rd HM1.out.below rfl).mono ?_; rintro e w2 ⟨rfl, hi, hb2, hk⟩; have HM2 := Aside0.mk (HM1.out.trans ⟨hi, hb2, hk⟩); have BR2 := Aside0.mk (Reader137.Moved.blk (e := 0) ⟨hi, hb2, hk⟩ BR1.out (by omega)); have BS2 := Aside0.mk (Reader137.Moved.blk (e := 0) ⟨hi, hb2, hk⟩ BS1.out (by omega)); clear hi hb2 hk; obtain ⟨c0, c1, c2, c3, f0, f1, f2, f3⟩ := cell4 BR2.out; obtain ⟨d0, d1, d2, d3, g0, g1, g2, g3⟩ := cell4 BS2.out) | (go_at_call 49; refine (profile_check.calls _ _ _ _ 1 _ HC.out).mono ?_; rintro e w3 ⟨rfl, hb3⟩; have HM3 := Aside0.mk (on (far HM2.out (by omega) (by omega) hww _) hb3); have BS3 := Aside0.mk (blk_below (put_2 BS2.out x) hb3); have BR3 := Aside0.mk (blk_below (blk_far BR2.out (by simp only; omega) _) hb3); clear hb3; clear c0 c1 c2 c3 f0 f1 f2 f3 d0 d1 d2 d3 g0 g1 g2 g3; obtain ⟨c0, c1, c2, c3, f0, f1, f2, f3⟩ := cell4 BR3.out; obtain ⟨d0, d1, d2, d3, g0, g1, g2, g3⟩ := cell4 BS3.out))
                all_goals try simp only [Exit.inBlock, Exit.then]
                all_goals exact ends (s := setF s 2 x) (put4_blk BR3.out _) rfl (by rw [← HF.out]; rfl) (fun h => by rw [← HF.out] at h; cases h) (far4 HM3.out (Nat.le_refl _) (by omega) hww _) (fun h => by rw [← HF.out] at h; cases h)
          · rw [if_pos (by simpa using he)] at hfr
            have HF := Aside0.mk hfr
            clear hfr
            have b4 : (e' != 0) = true := by simpa using he
            go_wp2_with (first | (go_at_call 104; refine HU.out.mono ?_; rintro e w1 ⟨rfl, hm⟩; have HM1 := Aside0.mk (HM.out.trans hm); have BR1 := Aside0.mk (Reader137.Moved.blk hm BR.out (by omega)); have BS1 := Aside0.mk (Reader137.Moved.blk hm BS.out (by omega)); clear hm) | (go_at_call 54; refine (wire_Reader_Err.calls g bs _ _ _ _ _ w0 w1 HM1.out.rd HM1.out.below rfl).mono ?_; rintro e w2 ⟨rfl, hi, hb2, hk⟩; have HM2 := Aside0.mk (HM1.out.trans ⟨hi, hb2, hk⟩); have BR2 := Aside0.mk (Reader137.Moved.blk (e := e') ⟨hi, hb2, hk⟩ BR1.out (by omega)); have BS2 := Aside0.mk (Reader137.Moved.blk (e := e') ⟨hi, hb2, hk⟩ BS1.out (by omega)); clear hi hb2 hk; obtain ⟨c0, c1, c2, c3, f0, f1, f2, f3⟩ := cell4 BR2.out; obtain ⟨d0, d1, d2, d3, g0, g1, g2, g3⟩ := cell4 BS2.out))
            obtain ⟨A, c, h0, h1, h2, _, _, _⟩ := Reader.look HM2.out.rd
            go_region_calls
            all_goals go_wp2
            all_goals try simp only [Exit.inBlock, Exit.then]
            all_goals exact ends (s := s) (blk_drew (put4_blk BR2.out s)) rfl (by rw [← HF.out]; rfl) (fun h => by rw [← HF.out] at h; exact absurd h he) (far4 HM2.out (Nat.le_refl _) (by omega) hww s).drew (fun h => by rw [← HF.out] at h; exact absurd h he)
      · -- field 1
        have hms : bits .and .u8 fl 2 = if fl / 2 ^ 1 % 2 = 0 then 0 else 2 := HMask.out 1
        by_cases hbit : fl / 2 ^ 1 % 2 = 0
        · have hm0 : bits .and .u8 fl 2 = 0 := by rw [hms, if_pos hbit]
          go_wp2_with fail
          go_roundw
          case rel => exact ⟨2, s, a2, by omega, ha2, by rfl, ⟨by
            rcases HR.out with ⟨h, h2⟩ | h
            · exact .inl ⟨h, by rw [← h2]; simp only [fieldsR]; rw [if_pos hbit]⟩
            · exact .inr h⟩, HM, BR, BS⟩
          case measure => simp [intOf]
        · obtain ⟨he0, hfr⟩ : e0 = 0 ∧ fieldsR bs fl 3 s a2 = R := by
            rcases HR.out with h | ⟨_, h, _⟩
            · exact h
            · exact absurd (by rw [h]; rfl) hbit
          subst he0
          simp only [fieldsR] at hfr
          rw [if_neg hbit] at hfr
          have hm1 : bits .and .u8 fl 2 = 2 := by rw [hms, if_neg hbit]
          have HU := Aside0.mk (uint g bs a2 0 w0 _ HM.out.rd HM.out.below hb ha2)
          have hu := uintR_le bs a2 0 hb ha2
          obtain ⟨⟨x, n, e'⟩, hr⟩ : ∃ r, r = uintR bs a2 0 := ⟨_, rfl⟩
          rw [← hr] at HU hu hfr
          clear hr hms hbit HR
          simp only at HU hu hfr
          skip
          by_cases he : e' = 0
          · rw [if_neg (by simpa using he)] at hfr
            subst he
            by_cases hx : x = 0
            · rw [if_pos hx] at hfr
              have HF := Aside0.mk hfr
              have b3 : (x == 0) = true := by simpa using hx
              clear hfr
              go_wp2_with (first | (go_at_call 104; refine HU.out.mono ?_; rintro e w1 ⟨rfl, hm⟩; have HM1 := Aside0.mk (HM.out.trans hm); have BR1 := Aside0.mk (Reader137.Moved.blk hm BR.out (by omega)); have BS1 := Aside0.mk (Reader137.Moved.blk hm BS.out (by omega)); clear hm) | (go_at_call 54; refine (wire_Reader_Err.calls g bs _ _ _ _ _ w0 w1 HM1.out.rd HM1.out.below rfl).mono ?_; rintro e w2 ⟨rfl, hi, hb2, hk⟩; have HM2 := Aside0.mk (HM1.out.trans ⟨hi, hb2, hk⟩); have BR2 := Aside0.mk (Reader137.Moved.blk (e := 0) ⟨hi, hb2, hk⟩ BR1.out (by omega)); have BS2 := Aside0.mk (Reader137.Moved.blk (e := 0) ⟨hi, hb2, hk⟩ BS1.out (by omega)); clear hi hb2 hk; obtain ⟨c0, c1, c2, c3, f0, f1, f2, f3⟩ := cell4 BR2.out; obtain ⟨d0, d1, d2, d3, _, _, _, _⟩ := cell4 BS2.out))
              try simp only [Exit.inBlock, Exit.then]
              exact ends (s := s) (put4_blk BR2.out s) rfl (by rw [← HF.out]; rfl) (fun h => by rw [← HF.out] at h; cases h) (far4 HM2.out (Nat.le_refl _) (by omega) hww s) (fun h => by rw [← HF.out] at h; cases h)
            · rw [if_neg hx] at hfr
              replace hfr : (if okSpot (setF s 1 x) = true then fieldsR bs fl 2 (setF s 1 x) n else (1, s, a2)) = R := hfr
              have HF := Aside0.mk hfr
              clear hfr
              have b3 : (x == 0) = false := by simpa using hx
              by_cases hok : okSpot (setF s 1 x) = true
              · have HC := Aside0.mk (check_yes _ hok)
                go_wp2_with (first | (go_at_call 104; refine HU.out.mono ?_; rintro e w1 ⟨rfl, hm⟩; have HM1 := Aside0.mk (HM.out.trans hm); have BR1 := Aside0.mk (Reader137.Moved.blk hm BR.out (by omega)); have BS1 := Aside0.mk (Reader137.Moved.blk hm BS.out (by omega)); clear hm) | (go_at_call 54; refine (wire_Reader_Err.calls g bs _ _ _ _ _ w0 w1 HM1.out.rd HM1.out.below rfl).mono ?_; rintro e w2 ⟨rfl, hi, hb2, hk⟩; have HM2 := Aside0.mk (HM1.out.trans ⟨hi, hb2, hk⟩); have BR2 := Aside0.mk (Reader137.Moved.blk (e := 0) ⟨hi, hb2, hk⟩ BR1.out (by omega)); have BS2 := Aside0.mk (Reader137.Moved.blk (e := 0) ⟨hi, hb2, hk⟩ BS1.out (by omega)); clear hi hb2 hk; obtain ⟨c0, c1, c2, c3, f0, f1, f2, f3⟩ := cell4 BR2.out; obtain ⟨d0, d1, d2, d3, g0, g1, g2, g3⟩ := cell4 BS2.out) | (go_at_call 49; refine (profile_check.calls _ _ _ _ 0 _ HC.out).mono ?_; rintro e w3 ⟨rfl, hb3⟩; have HM3 := Aside0.mk (on (far HM2.out (by omega) (by omega) hww _) hb3); have BS3 := Aside0.mk (blk_below (put_1 BS2.out x) hb3); have BR3 := Aside0.mk (blk_below (blk_far BR2.out (by simp only; omega) _) hb3); clear hb3))
                go_roundw
                case rel => exact ⟨2, setF s 1 x, n, by omega, hu.1, by rfl, ⟨by have h9 := HF.out; rw [if_pos hok] at h9; first | exact .inl ⟨rfl, h9⟩ | exact .inl ⟨trivial, h9⟩⟩, HM3, BR3, BS3⟩
                case measure => simp [intOf]
              · have HC := Aside0.mk (check_no _ (by simpa using hok))
                rw [if_neg hok] at HF
                go_wp2_with (first | (go_at_call 104; refine HU.out.mono ?_; rintro e w1 ⟨rfl, hm⟩; have HM1 := Aside0.mk (HM.out.trans hm); have BR1 := Aside0.mk (Reader137.Moved.blk hm BR.out (by omega)); have BS1 := Aside0.mk (Reader137.Moved.blk hm BS.out (by omega)); clear hm) | (go_at_call 54; refine (wire_Reader_Err.calls g bs _ _ _ _ _ w0 w1 HM1.out.rd HM1.out.below rfl).mono ?_; rintro e w2 ⟨rfl, hi, hb2, hk⟩; have HM2 := Aside0.mk (HM1.out.trans ⟨hi, hb2, hk⟩); have BR2 := Aside0.mk (Reader137.Moved.blk (e := 0) ⟨hi, hb2, hk⟩ BR1.out (by omega)); have BS2 := Aside0.mk (Reader137.Moved.blk (e := 0) ⟨hi, hb2, hk⟩ BS1.out (by omega)); clear hi hb2 hk; obtain ⟨c0, c1, c2, c3, f0, f1, f2, f3⟩ := cell4 BR2.out; obtain ⟨d0, d1, d2, d3, g0, g1, g2, g3⟩ := cell4 BS2.out) | (go_at_call 49; refine (profile_check.calls _ _ _ _ 1 _ HC.out).mono ?_; rintro e w3 ⟨rfl, hb3⟩; have HM3 := Aside0.mk (on (far HM2.out (by omega) (by omega) hww _) hb3); have BS3 := Aside0.mk (blk_below (put_1 BS2.out x) hb3); have BR3 := Aside0.mk (blk_below (blk_far BR2.out (by simp only; omega) _) hb3); clear hb3; clear c0 c1 c2 c3 f0 f1 f2 f3 d0 d1 d2 d3 g0 g1 g2 g3; obtain ⟨c0, c1, c2, c3, f0, f1, f2, f3⟩ := cell4 BR3.out; obtain ⟨d0, d1, d2, d3, g0, g1, g2, g3⟩ := cell4 BS3.out))
                all_goals try simp only [Exit.inBlock, Exit.then]
                all_goals exact ends (s := setF s 1 x) (put4_blk BR3.out _) rfl (by rw [← HF.out]; rfl) (fun h => by rw [← HF.out] at h; cases h) (far4 HM3.out (Nat.le_refl _) (by omega) hww _) (fun h => by rw [← HF.out] at h; cases h)
          · rw [if_pos (by simpa using he)] at hfr
            have HF := Aside0.mk hfr
            clear hfr
            have b4 : (e' != 0) = true := by simpa using he
            go_wp2_with (first | (go_at_call 104; refine HU.out.mono ?_; rintro e w1 ⟨rfl, hm⟩; have HM1 := Aside0.mk (HM.out.trans hm); have BR1 := Aside0.mk (Reader137.Moved.blk hm BR.out (by omega)); have BS1 := Aside0.mk (Reader137.Moved.blk hm BS.out (by omega)); clear hm) | (go_at_call 54; refine (wire_Reader_Err.calls g bs _ _ _ _ _ w0 w1 HM1.out.rd HM1.out.below rfl).mono ?_; rintro e w2 ⟨rfl, hi, hb2, hk⟩; have HM2 := Aside0.mk (HM1.out.trans ⟨hi, hb2, hk⟩); have BR2 := Aside0.mk (Reader137.Moved.blk (e := e') ⟨hi, hb2, hk⟩ BR1.out (by omega)); have BS2 := Aside0.mk (Reader137.Moved.blk (e := e') ⟨hi, hb2, hk⟩ BS1.out (by omega)); clear hi hb2 hk; obtain ⟨c0, c1, c2, c3, f0, f1, f2, f3⟩ := cell4 BR2.out; obtain ⟨d0, d1, d2, d3, g0, g1, g2, g3⟩ := cell4 BS2.out))
            obtain ⟨A, c, h0, h1, h2, _, _, _⟩ := Reader.look HM2.out.rd
            go_region_calls
            all_goals go_wp2
            all_goals try simp only [Exit.inBlock, Exit.then]
            all_goals exact ends (s := s) (blk_drew (put4_blk BR2.out s)) rfl (by rw [← HF.out]; rfl) (fun h => by rw [← HF.out] at h; exact absurd h he) (far4 HM2.out (Nat.le_refl _) (by omega) hww s).drew (fun h => by rw [← HF.out] at h; exact absurd h he)
      · -- field 0
        have hms : bits .and .u8 fl 1 = if fl / 2 ^ 0 % 2 = 0 then 0 else 1 := HMask.out 0
        by_cases hbit : fl / 2 ^ 0 % 2 = 0
        · have hm0 : bits .and .u8 fl 1 = 0 := by rw [hms, if_pos hbit]
          go_wp2_with fail
          go_roundw
          case rel => exact ⟨3, s, a2, by omega, ha2, by rfl, ⟨by
            rcases HR.out with ⟨h, h2⟩ | h
            · exact .inl ⟨h, by rw [← h2]; simp only [fieldsR]; rw [if_pos hbit]⟩
            · exact .inr h⟩, HM, BR, BS⟩
          case measure => simp [intOf]
        · obtain ⟨he0, hfr⟩ : e0 = 0 ∧ fieldsR bs fl 4 s a2 = R := by
            rcases HR.out with h | ⟨_, h, _⟩
            · exact h
            · exact absurd (by rw [h]; rfl) hbit
          subst he0
          simp only [fieldsR] at hfr
          rw [if_neg hbit] at hfr
          have hm1 : bits .and .u8 fl 1 = 1 := by rw [hms, if_neg hbit]
          have HU := Aside0.mk (uint g bs a2 0 w0 _ HM.out.rd HM.out.below hb ha2)
          have hu := uintR_le bs a2 0 hb ha2
          obtain ⟨⟨x, n, e'⟩, hr⟩ : ∃ r, r = uintR bs a2 0 := ⟨_, rfl⟩
          rw [← hr] at HU hu hfr
          clear hr hms hbit HR
          simp only at HU hu hfr
          skip
          by_cases he : e' = 0
          · rw [if_neg (by simpa using he)] at hfr
            subst he
            by_cases hx : x = 0
            · rw [if_pos hx] at hfr
              have HF := Aside0.mk hfr
              have b3 : (x == 0) = true := by simpa using hx
              clear hfr
              go_wp2_with (first | (go_at_call 104; refine HU.out.mono ?_; rintro e w1 ⟨rfl, hm⟩; have HM1 := Aside0.mk (HM.out.trans hm); have BR1 := Aside0.mk (Reader137.Moved.blk hm BR.out (by omega)); have BS1 := Aside0.mk (Reader137.Moved.blk hm BS.out (by omega)); clear hm) | (go_at_call 54; refine (wire_Reader_Err.calls g bs _ _ _ _ _ w0 w1 HM1.out.rd HM1.out.below rfl).mono ?_; rintro e w2 ⟨rfl, hi, hb2, hk⟩; have HM2 := Aside0.mk (HM1.out.trans ⟨hi, hb2, hk⟩); have BR2 := Aside0.mk (Reader137.Moved.blk (e := 0) ⟨hi, hb2, hk⟩ BR1.out (by omega)); have BS2 := Aside0.mk (Reader137.Moved.blk (e := 0) ⟨hi, hb2, hk⟩ BS1.out (by omega)); clear hi hb2 hk; obtain ⟨c0, c1, c2, c3, f0, f1, f2, f3⟩ := cell4 BR2.out; obtain ⟨d0, d1, d2, d3, _, _, _, _⟩ := cell4 BS2.out))
              try simp only [Exit.inBlock, Exit.then]
              exact ends (s := s) (put4_blk BR2.out s) rfl (by rw [← HF.out]; rfl) (fun h => by rw [← HF.out] at h; cases h) (far4 HM2.out (Nat.le_refl _) (by omega) hww s) (fun h => by rw [← HF.out] at h; cases h)
            · rw [if_neg hx] at hfr
              replace hfr : (if okSpot (setF s 0 x) = true then fieldsR bs fl 3 (setF s 0 x) n else (1, s, a2)) = R := hfr
              have HF := Aside0.mk hfr
              clear hfr
              have b3 : (x == 0) = false := by simpa using hx
              by_cases hok : okSpot (setF s 0 x) = true
              · have HC := Aside0.mk (check_yes _ hok)
                go_wp2_with (first | (go_at_call 104; refine HU.out.mono ?_; rintro e w1 ⟨rfl, hm⟩; have HM1 := Aside0.mk (HM.out.trans hm); have BR1 := Aside0.mk (Reader137.Moved.blk hm BR.out (by omega)); have BS1 := Aside0.mk (Reader137.Moved.blk hm BS.out (by omega)); clear hm) | (go_at_call 54; refine (wire_Reader_Err.calls g bs _ _ _ _ _ w0 w1 HM1.out.rd HM1.out.below rfl).mono ?_; rintro e w2 ⟨rfl, hi, hb2, hk⟩; have HM2 := Aside0.mk (HM1.out.trans ⟨hi, hb2, hk⟩); have BR2 := Aside0.mk (Reader137.Moved.blk (e := 0) ⟨hi, hb2, hk⟩ BR1.out (by omega)); have BS2 := Aside0.mk (Reader137.Moved.blk (e := 0) ⟨hi, hb2, hk⟩ BS1.out (by omega)); clear hi hb2 hk; obtain ⟨c0, c1, c2, c3, f0, f1, f2, f3⟩ := cell4 BR2.out; obtain ⟨d0, d1, d2, d3, g0, g1, g2, g3⟩ := cell4 BS2.out) | (go_at_call 49; refine (profile_check.calls _ _ _ _ 0 _ HC.out).mono ?_; rintro e w3 ⟨rfl, hb3⟩; have HM3 := Aside0.mk (on (far HM2.out (by omega) (by omega) hww _) hb3); have BS3 := Aside0.mk (blk_below (put_0 BS2.out x) hb3); have BR3 := Aside0.mk (blk_below (blk_far BR2.out (by simp only; omega) _) hb3); clear hb3))
                go_roundw
                case rel => exact ⟨3, setF s 0 x, n, by omega, hu.1, by rfl, ⟨by have h9 := HF.out; rw [if_pos hok] at h9; first | exact .inl ⟨rfl, h9⟩ | exact .inl ⟨trivial, h9⟩⟩, HM3, BR3, BS3⟩
                case measure => simp [intOf]
              · have HC := Aside0.mk (check_no _ (by simpa using hok))
                rw [if_neg hok] at HF
                go_wp2_with (first | (go_at_call 104; refine HU.out.mono ?_; rintro e w1 ⟨rfl, hm⟩; have HM1 := Aside0.mk (HM.out.trans hm); have BR1 := Aside0.mk (Reader137.Moved.blk hm BR.out (by omega)); have BS1 := Aside0.mk (Reader137.Moved.blk hm BS.out (by omega)); clear hm) | (go_at_call 54; refine (wire_Reader_Err.calls g bs _ _ _ _ _ w0 w1 HM1.out.rd HM1.out.below rfl).mono ?_; rintro e w2 ⟨rfl, hi, hb2, hk⟩; have HM2 := Aside0.mk (HM1.out.trans ⟨hi, hb2, hk⟩); have BR2 := Aside0.mk (Reader137.Moved.blk (e := 0) ⟨hi, hb2, hk⟩ BR1.out (by omega)); have BS2 := Aside0.mk (Reader137.Moved.blk (e := 0) ⟨hi, hb2, hk⟩ BS1.out (by omega)); clear hi hb2 hk; obtain ⟨c0, c1, c2, c3, f0, f1, f2, f3⟩ := cell4 BR2.out; obtain ⟨d0, d1, d2, d3, g0, g1, g2, g3⟩ := cell4 BS2.out) | (go_at_call 49; refine (profile_check.calls _ _ _ _ 1 _ HC.out).mono ?_; rintro e w3 ⟨rfl, hb3⟩; have HM3 := Aside0.mk (on (far HM2.out (by omega) (by omega) hww _) hb3); have BS3 := Aside0.mk (blk_below (put_0 BS2.out x) hb3); have BR3 := Aside0.mk (blk_below (blk_far BR2.out (by simp only; omega) _) hb3); clear hb3; clear c0 c1 c2 c3 f0 f1 f2 f3 d0 d1 d2 d3 g0 g1 g2 g3; obtain ⟨c0, c1, c2, c3, f0, f1, f2, f3⟩ := cell4 BR3.out; obtain ⟨d0, d1, d2, d3, g0, g1, g2, g3⟩ := cell4 BS3.out))
                all_goals try simp only [Exit.inBlock, Exit.then]
                all_goals exact ends (s := setF s 0 x) (put4_blk BR3.out _) rfl (by rw [← HF.out]; rfl) (fun h => by rw [← HF.out] at h; cases h) (far4 HM3.out (Nat.le_refl _) (by omega) hww _) (fun h => by rw [← HF.out] at h; cases h)
          · rw [if_pos (by simpa using he)] at hfr
            have HF := Aside0.mk hfr
            clear hfr
            have b4 : (e' != 0) = true := by simpa using he
            go_wp2_with (first | (go_at_call 104; refine HU.out.mono ?_; rintro e w1 ⟨rfl, hm⟩; have HM1 := Aside0.mk (HM.out.trans hm); have BR1 := Aside0.mk (Reader137.Moved.blk hm BR.out (by omega)); have BS1 := Aside0.mk (Reader137.Moved.blk hm BS.out (by omega)); clear hm) | (go_at_call 54; refine (wire_Reader_Err.calls g bs _ _ _ _ _ w0 w1 HM1.out.rd HM1.out.below rfl).mono ?_; rintro e w2 ⟨rfl, hi, hb2, hk⟩; have HM2 := Aside0.mk (HM1.out.trans ⟨hi, hb2, hk⟩); have BR2 := Aside0.mk (Reader137.Moved.blk (e := e') ⟨hi, hb2, hk⟩ BR1.out (by omega)); have BS2 := Aside0.mk (Reader137.Moved.blk (e := e') ⟨hi, hb2, hk⟩ BS1.out (by omega)); clear hi hb2 hk; obtain ⟨c0, c1, c2, c3, f0, f1, f2, f3⟩ := cell4 BR2.out; obtain ⟨d0, d1, d2, d3, g0, g1, g2, g3⟩ := cell4 BS2.out))
            obtain ⟨A, c, h0, h1, h2, _, _, _⟩ := Reader.look HM2.out.rd
            go_region_calls
            all_goals go_wp2
            all_goals try simp only [Exit.inBlock, Exit.then]
            all_goals exact ends (s := s) (blk_drew (put4_blk BR2.out s)) rfl (by rw [← HF.out]; rfl) (fun h => by rw [← HF.out] at h; exact absurd h he) (far4 HM2.out (Nat.le_refl _) (by omega) hww s).drew (fun h => by rw [← HF.out] at h; exact absurd h he)
end Go.Proofs.YtjeaojolhdfpeaaGreat.SpotOf
