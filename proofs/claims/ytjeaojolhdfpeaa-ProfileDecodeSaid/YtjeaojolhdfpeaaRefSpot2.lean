/- The reference's spot, walked. -/
import Derived.Test.YtjeaojolhdfpeaaRefStep
import Derived.RegionCalls
import Derived.Deep.DeepCutAuto
namespace Go.Proofs.Ytjeaojolhdfpeaa.RefReader
open Go.RowKit Go.Proofs.YtjeaojolhdfpeaaW.PrintWords Go.Proofs.YtjeaojolhdfpeaaW.PrintLast Go.Proofs.YtjeaojolhdfpeaaW.PrintMore
open Go.Proofs.Ytjeaojolhdfpeaa.PProfileDecode Go.Proofs.Ytjeaojolhdfpeaa.Reader Go.Proofs.Ytjeaojolhdfpeaa.Methods Go.Proofs.Ytjeaojolhdfpeaa.NumRef Go.Proofs.Ytjeaojolhdfpeaa.SpotOf
set_option linter.unusedVariables false
set_option linter.unusedSimpArgs false

namespace Rr
variable {w0 w w1 w2 : World} {g c k j : Nat} {A : Option Addr} {bs : List Int} {a e a' e' : Int}
theorem far (h : Rr w0 w w1 g A c bs a e) (hk : w.heap.size ≤ k) (hne : k ≠ g) (hw : w0.heap.size ≤ w.heap.size) (u : Value) : Rr w0 w (w1.setCell ⟨k, j, none⟩ u) g A c bs a e :=
  ⟨blk_far h.blk (p := ⟨k, j, none⟩) (fun he => hne he.symm) u, h.ge, h.row, h.room, below_set h.below (Nat.le_trans hw hk), by have := h.keep.1; simpa [World.setCell] using this, fun i hi hg hr => (Below.heap_setCell w1 ⟨k, j, none⟩ u i (by simp only; omega)).trans (h.keep.2 i hi hg hr)⟩
theorem far4 (h : Rr w0 w w1 g A c bs a e) (hk : w.heap.size ≤ k) (hne : k ≠ g) (hw : w0.heap.size ≤ w.heap.size) (s : S28) : Rr w0 w (put4 w1 k s) g A c bs a e :=
  (((h.far hk hne hw _).far hk hne hw _).far hk hne hw _).far hk hne hw _
theorem from_ (h : Rr w0 w w1 g A c bs a e) : Rr w0 w1 w1 g A c bs a e := ⟨h.blk, h.ge, h.row, h.room, h.below, KeepBut.refl _ _ _⟩
theorem then_ (h : Rr w0 w w1 g A c bs a e) (k : Rr w0 w1 w2 g A c bs a' e') : Rr w0 w w2 g A c bs a' e' := ⟨k.blk, k.ge, k.row, k.room, k.below, h.keep.trans k.keep (.inl rfl)⟩
theorem stands {o : Obj} (h : Rr w0 w w1 g A c bs a e) (hb : w.heap[k]? = some o) (hk : k ≠ g) : w1.heap[k]? = some o := (h.keep.2 k (blk_lt hb) hk (by simp)).trans hb
end Rr
/-- What the reference's spot leaves. -/
def SpottedR (w0 w : World) (g : Nat) (A : Option Addr) (c : Nat) (bs : List Int) (R : Int × S28 × Nat) (e : Ending) (w' : World) : Prop :=
  ∃ s : S28, e = .returned (.tuple #[.agg #[.int .i64 s.f0, .int .u16 s.f1, .int .u16 s.f2, .int .i64 s.f3], .int .i64 R.1]) ∧ (R.1 = 0 → s = R.2.1) ∧ ∃ (a' : Nat) (e' : Int), Rr w0 w w' g A c bs a' e' ∧ (R.1 = 0 → a' = R.2.2 ∧ e' = 0)
theorem endsR {w0 w W : World} {g k : Nat} {A : Option Addr} {c : Nat} {bs : List Int} {R : Int × S28 × Nat} {s : S28} {a' : Nat} {e' : Int} {tmps : Array Value} (hk : W.heap[k]? = some (cells s)) (ht : tmps.getD 2 undef = .pointer (some ⟨k, 0, none⟩)) (hr : tmps.getD 3 undef = .int .i64 R.1)
    (hs : R.1 = 0 → s = R.2.1) (hm : Rr w0 w W g A c bs a' e') (he : R.1 = 0 → a' = R.2.2 ∧ e' = 0) : bodyPost Try.prog Try.f56 (SpottedR w0 w g A c bs R) Exit.ret { tmps := tmps, defers := [] } W := by
  refine bodyPost_ret (results_ct rfl _ _ k 28 #[.int .i64 s.f0, .int .u16 s.f1, .int .u16 s.f2, .int .i64 s.f3] (0, 0) _ ht hk Try.underlying28 rfl (by kernel_rfl)) rfl ⟨s, by rw [hr], hs, a', e', hm, he⟩

/-- Between two fields: the reader, the two blocks, what has been read; nv is the error so far. -/
structure Mid (w0 w : World) (g : Nat) (A : Option Addr) (c : Nat) (bs : List Int) (fl : Int) (R : Int × S28 × Nat) (d : Nat) (s : S28) (a : Nat) (e nv : Int) (W : World) : Prop where
  rd : Rr w0 w W g A c bs a e
  br : W.heap[w.heap.size]? = some (cells SpotOf.z28)
  bs_ : W.heap[w.heap.size + 1]? = some (cells s)
  le : a ≤ bs.length
  ok : nv = 0 → e = 0 ∧ okSpot s = true ∧ fieldsR bs fl d s a = R
  no : nv ≠ 0 → R.1 = nv
theorem two_pow_ne (k : Nat) : (2 : Int) ^ k ≠ 0 := Int.ne_of_gt (Int.pow_pos (by decide))
theorem mask_ne {fl v : Int} (k : Nat) (h : v = if fl / 2 ^ k % 2 = 0 then 0 else 2 ^ k) : (v != 0) = decide (¬ fl / 2 ^ k % 2 = 0) := by
  by_cases h1 : fl / 2 ^ k % 2 = 0
  · rw [if_pos h1] at h
    rw [h, decide_eq_false (fun hn => hn h1)]; rfl
  · rw [if_neg h1] at h
    rw [h, decide_eq_true h1]
    simpa using two_pow_ne k
theorem mask_eq {fl v : Int} (k : Nat) (h : v = if fl / 2 ^ k % 2 = 0 then 0 else 2 ^ k) : (v == 0) = decide (fl / 2 ^ k % 2 = 0) := by
  by_cases h1 : fl / 2 ^ k % 2 = 0
  · rw [if_pos h1] at h
    rw [h, decide_eq_true h1]; rfl
  · rw [if_neg h1] at h
    rw [h, decide_eq_false h1]
    simpa using two_pow_ne k
theorem most_lt (i : Nat) : 0 ≤ most i ∧ most i < 18446744073709551616 := by
  unfold most
  split <;> omega
theorem field_range (bs : List Int) (a : Nat) (m : Int) (hb : Bytes bs) (ha : a ≤ bs.length) (hm : 0 ≤ m) : 0 ≤ (fieldR bs a m).1 ∧ (fieldR bs a m).1 ≤ m ∧ (fieldR bs a m).2.2.1 ≤ bs.length ∧ ((fieldR bs a m).2.1 = 0 → (fieldR bs a m).2.2.2 = 0) := by
  have h := uintR_le bs a 0 hb ha
  unfold fieldR
  repeat' split
  all_goals simp only
  all_goals first | (refine ⟨by omega, by omega, by omega, ?_⟩) | skip
  all_goals first | (intro h0; exact h0) | (intro h0; omega) | (intro _; rfl)
/-- A field was read: s1 has it where it was taken. -/
theorem Mid.step {w0 w W W2 : World} {g : Nat} {A : Option Addr} {c : Nat} {bs : List Int} {fl : Int} {R : Int × S28 × Nat} {d i : Nat} {s s1 : S28} {a : Nat} (hb : Bytes bs) (hid : i + d = 3) (hd : 1 ≤ d) (hbit : ¬ fl / 2 ^ i % 2 = 0) (h : Mid w0 w g A c bs fl R (d + 1) s a 0 0 W)
    (hx : Rr w0 w W2 g A c bs (fieldR bs a (most i)).2.2.1 (fieldR bs a (most i)).2.2.2) (b1 : W2.heap[w.heap.size]? = some (cells SpotOf.z28)) (b2 : W2.heap[w.heap.size + 1]? = some (cells s1)) (hs : (fieldR bs a (most i)).2.1 = 0 → s1 = setF s i (fieldR bs a (most i)).1) :
    Mid w0 w g A c bs fl R d s1 (fieldR bs a (most i)).2.2.1 (fieldR bs a (most i)).2.2.2 (fieldR bs a (most i)).2.1 W2 := by
  obtain rfl : i = 3 - d := by omega
  obtain ⟨_, hok, hR⟩ := h.ok rfl
  have hm : 0 ≤ most (3 - d) := (most_lt _).1
  have hr := field_range bs a (most (3 - d)) hb h.le hm
  rw [fields_step bs fl d s a hb h.le hok ⟨hd, by omega⟩ hbit] at hR
  refine ⟨hx, b1, b2, hr.2.2.1, fun hz => ?_, fun hz => ?_⟩
  · rw [if_neg (by simpa using hz)] at hR
    refine ⟨hr.2.2.2 hz, ?_, by rw [hs hz]; exact hR⟩
    rw [hs hz, ok_set s (3 - d) _ hok (by omega) ⟨hr.1, by have := hr.2.1; have := (most_lt (3 - d)).2; omega⟩]
    exact decide_eq_true hr.2.1
  · rw [if_pos hz] at hR
    rw [← hR]
theorem Mid.skip {w0 w W : World} {g : Nat} {A : Option Addr} {c : Nat} {bs : List Int} {fl : Int} {R : Int × S28 × Nat} {d : Nat} {s : S28} {a : Nat} {e nv : Int} (h : Mid w0 w g A c bs fl R (d + 1) s a e nv W) (hbit : nv = 0 → fl / 2 ^ (3 - d) % 2 = 0) : Mid w0 w g A c bs fl R d s a e nv W :=
  ⟨h.rd, h.br, h.bs_, h.le, fun hz => by
    obtain ⟨h1, h2, h3⟩ := h.ok hz
    refine ⟨h1, h2, ?_⟩
    simp only [fieldsR] at h3
    rw [if_pos (hbit hz)] at h3
    exact h3, h.no⟩

set_option maxHeartbeats 8000000 in
set_option maxRecDepth 100000 in
theorem spot (g : Nat) (A : Option Addr) (c : Nat) (bs : List Int) (a : Nat) (w0 w : World) (h : Rr w0 w w g A c bs a 0) (hb : Bytes bs) (ha : a ≤ bs.length) (hl : bs.length ≤ 140737488355328) :
    Calls Try.prog 56 #[.pointer (some ⟨g, 0, none⟩)] w (SpottedR w0 w g A c bs (spotR bs a)) := by
  have hgl := blk_lt h.blk
  have hww := h.below.size
  have H := Aside0.mk ((h.alloc (.cells #[.int .i64 0, .int .u16 0, .int .u16 0, .int .i64 0] 28)).alloc (.cells #[.int .i64 0, .int .u16 0, .int .u16 0, .int .i64 0] 28))
  have BR : Aside0 (((w.alloc (.cells #[.int .i64 0, .int .u16 0, .int .u16 0, .int .i64 0] 28)).alloc (.cells #[.int .i64 0, .int .u16 0, .int .u16 0, .int .i64 0] 28)).heap[w.heap.size]? = some (cells SpotOf.z28)) := ⟨blk_alloc (blk_new _ _) _⟩
  have BS : Aside0 (((w.alloc (.cells #[.int .i64 0, .int .u16 0, .int .u16 0, .int .i64 0] 28)).alloc (.cells #[.int .i64 0, .int .u16 0, .int .u16 0, .int .i64 0] 28)).heap[w.heap.size + 1]? = some (cells SpotOf.z28)) := ⟨by have := blk_new (w.alloc (.cells #[.int .i64 0, .int .u16 0, .int .u16 0, .int .i64 0] 28)) (.cells #[.int .i64 0, .int .u16 0, .int .u16 0, .int .i64 0] 28); simpa [cells, SpotOf.z28] using this⟩
  clear h
  have HBy := Aside0.mk (byte g A c bs a w0 _ _ H.out.from_)
  have hbr := byte_range bs a hb ha
  rw [spotR_eq]
  obtain ⟨⟨fl, a1, e0⟩, hr⟩ : ∃ r, r = byteR bs a 0 := ⟨_, rfl⟩
  rw [← hr] at HBy hbr ⊢
  clear hr
  simp only at HBy hbr ⊢
  by_cases he0 : e0 = 0
  · rw [if_pos he0]
    subst he0
    by_cases hfl : fl > 15
    · rw [if_pos hfl]
      have b1 : decide (15 < fl) = true := decide_eq_true hfl
      go_enter Try.func56, Try.ntmps56
      go_wp2_with (go_at_call 90; refine HBy.out.mono ?_; rintro e w1 ⟨rfl, hm⟩; have HM1 := Aside0.mk (H.out.then_ hm); have BR1 := Aside0.mk (hm.stands BR.out (by omega)); have BS1 := Aside0.mk (hm.stands BS.out (by omega)); obtain ⟨k0, k1, k2, _, _⟩ := hm.look; clear hm; obtain ⟨c0, c1, c2, c3, f0, f1, f2, f3⟩ := cell4 BR1.out; obtain ⟨d0, d1, d2, d3, g0, g1, g2, g3⟩ := cell4 BS1.out)
      try simp only [Exit.inBlock, Exit.then]
      exact endsR (s := SpotOf.z28) (put4_blk BR1.out SpotOf.z28) rfl rfl (fun h => by cases h) (HM1.out.far4 (Nat.le_refl _) (by omega) hww SpotOf.z28) (fun h => by cases h)
    · rw [if_neg hfl]
      obtain ⟨R, hR⟩ : ∃ R, R = fieldsR bs fl 4 SpotOf.z28 a1 := ⟨_, rfl⟩
      rw [← hR]
      have HR := Aside0.mk hR.symm
      clear hR
      have ha1 := hbr.2.2.1
      have b1 : decide (15 < fl) = false := decide_eq_false hfl
      obtain ⟨fn, hfn⟩ : ∃ fn : Fin 16, ((fn.val : Nat) : Int) = fl := ⟨⟨fl.toNat, by omega⟩, by simp; omega⟩
      have hmask := mask fn
      rw [hfn] at hmask
      have HMask := Aside0.mk hmask
      clear hmask hfn hbr
      have H0 : Aside0 ((bits .and .u8 fl 1 != 0) = decide (¬ fl / 2 ^ 0 % 2 = 0)) := ⟨mask_ne 0 (HMask.out 0)⟩
      have H1 : Aside0 ((bits .and .u8 fl 2 != 0) = decide (¬ fl / 2 ^ 1 % 2 = 0)) := ⟨mask_ne 1 (HMask.out 1)⟩
      have H2 : Aside0 ((bits .and .u8 fl 4 != 0) = decide (¬ fl / 2 ^ 2 % 2 = 0)) := ⟨mask_ne 2 (HMask.out 2)⟩
      have H3 : Aside0 ((bits .and .u8 fl 8 == 0) = decide (fl / 2 ^ 3 % 2 = 0)) := ⟨mask_eq 3 (HMask.out 3)⟩
      obtain ⟨m0, M0⟩ : ∃ m, m = decide (¬ fl / 2 ^ 0 % 2 = 0) := ⟨_, rfl⟩
      obtain ⟨m1, M1⟩ : ∃ m, m = decide (¬ fl / 2 ^ 1 % 2 = 0) := ⟨_, rfl⟩
      obtain ⟨m2, M2⟩ : ∃ m, m = decide (¬ fl / 2 ^ 2 % 2 = 0) := ⟨_, rfl⟩
      obtain ⟨m3, M3⟩ : ∃ m, m = decide (fl / 2 ^ 3 % 2 = 0) := ⟨_, rfl⟩
      rw [← M0] at H0
      rw [← M1] at H1
      rw [← M2] at H2
      rw [← M3] at H3
      replace M0 := Aside0.mk M0
      replace M1 := Aside0.mk M1
      replace M2 := Aside0.mk M2
      replace M3 := Aside0.mk M3
      clear HMask
      go_enter Try.func56, Try.ntmps56
      have h0 := H0.out
      go_upto_if 26 with (go_at_call 90; refine HBy.out.mono ?_; rintro e w1 ⟨rfl, hm⟩; have HM1 := Aside0.mk (H.out.then_ hm); have BR1 := Aside0.mk (hm.stands BR.out (by omega)); have BS1 := Aside0.mk (hm.stands BS.out (by omega)); obtain ⟨k0, k1, k2, _, _⟩ := hm.look; clear hm)
      clear h0 H0 k0 k1 k2
      replace HM1 : Aside0 (Mid w0 w g A c bs fl R 4 SpotOf.z28 a1 0 0 w1) := ⟨⟨HM1.out, BR1.out, BS1.out, ha1, fun _ => ⟨rfl, rfl, HR.out⟩, fun h => absurd rfl h⟩⟩
      clear HR BR1 BS1 H BR BS HBy

      go_cut [6] (fun no wx => ∃ (s : S28) (a : Nat) (e nv : Int), no = .int .i64 nv ∧ Aside0 (Mid w0 w g A c bs fl R 3 s a e nv wx))
      case first =>
        by_cases ht : m0 = true
        · obtain rfl : m0 = true := ht
          have hbit : ¬ fl / 2 ^ 0 % 2 = 0 := of_decide_eq_true M0.out.symm
          obtain ⟨he, hok, hR⟩ := HM1.out.ok rfl
          skip
          have HF := Aside0.mk (field g A c bs a1 9223372036854775807 w0 w1 w1 HM1.out.rd.from_ hb HM1.out.le hl)
          have hfr := field_range bs a1 9223372036854775807 hb HM1.out.le (by omega)
          obtain ⟨F, hF⟩ : ∃ F, F = fieldR bs a1 (most 0) := ⟨_, rfl⟩
          rw [show (9223372036854775807 : Int) = most 0 from rfl] at HF hfr
          rw [← hF] at HF hfr
          have HF2 := Aside0.mk hF.symm
          clear hF hok hR
          obtain ⟨x, no, a', e'⟩ := F
          have hf0 : 0 ≤ x := hfr.1
          have hf1 : x ≤ 9223372036854775807 := hfr.2.1
          clear hfr
          rw [show most 0 = 9223372036854775807 from rfl] at HF
          go_wp2_with (go_at_call 91; refine HF.out.mono ?_; rintro e w2 ⟨rfl, hm⟩; have HX := Aside0.mk (HM1.out.rd.then_ hm); have BR2 := Aside0.mk (hm.stands HM1.out.br (by omega)); have BS2 := Aside0.mk (hm.stands HM1.out.bs_ (by omega)); clear hm; obtain ⟨d0, d1, d2, d3, g0, g1, g2, g3⟩ := cell4 BS2.out)
          go_meet
          have HM2 := Mid.step (i := 0) (d := 3) (s1 := ⟨x, SpotOf.z28.f1, SpotOf.z28.f2, SpotOf.z28.f3⟩) (W2 := w2.setCell ⟨w.heap.size + 1, 0, none⟩ (.int .i64 x)) hb rfl (by omega) hbit HM1.out (by rw [HF2.out]; exact HX.out.far (by omega) (by omega) hww _) (blk_far BR2.out (p := ⟨w.heap.size + 1, 0, none⟩) (by simp) _) (by have := blk_set BS2.out 0 (.int .i64 x); simpa [cells] using this) (fun _ => by rw [HF2.out]; simp only [setF]; congr 1; unfold wrap64; omega)
          rw [HF2.out] at HM2
          exact ⟨_, _, _, _, rfl, ⟨HM2⟩⟩
        · have ht2 : m0 = false := by simpa using ht
          subst ht2
          go_wp2
          go_meet
          exact ⟨_, _, _, _, rfl, ⟨HM1.out.skip (d := 3) (fun _ => by have := M0.out; simpa using this.symm)⟩⟩
      obtain ⟨s, a, e, nv, rfl, HM1⟩ := hcut
      obtain ⟨W, rfl⟩ : ∃ W, W = wc := ⟨_, rfl⟩

      have h1 := H1.out
      go_upto_region 12 with fail
      go_cut [6, 41] (fun no t wx => no = .int .i64 nv ∧ (∃ t0, t = .bool t0 ∧ Aside0 (t0 = (m1 && decide (nv = 0)))) ∧ wx = W)
      case first =>
        by_cases hnv : nv = 0
        · have q1 : (nv == 0) = true := by simpa using hnv
          have q2 : decide (nv = 0) = true := decide_eq_true hnv
          cases m1
          all_goals (go_wp2; go_meet; exact ⟨rfl, ⟨_, rfl, ⟨by simp [q2]⟩⟩, rfl⟩)
        · have q1 : (nv == 0) = false := by simpa using hnv
          have q2 : decide (nv = 0) = false := decide_eq_false hnv
          cases m1
          all_goals (go_wp2; go_meet; exact ⟨rfl, ⟨_, rfl, ⟨by simp [q2]⟩⟩, rfl⟩)
      obtain ⟨rfl, ⟨t1, rfl, HT1⟩, hw⟩ := hcut
      replace hw := hw.symm
      subst hw
      clear h1 H1
      go_upto_if 41 with fail

      go_cut [6] (fun no wx => ∃ (s : S28) (a : Nat) (e nv : Int), no = .int .i64 nv ∧ Aside0 (Mid w0 w g A c bs fl R 2 s a e nv wx))
      case first =>
        cases t1
        rotate_left
        · have ht := HT1.out.symm
          rw [Bool.and_eq_true] at ht
          obtain ⟨ht, hnv⟩ := ht
          obtain rfl : nv = 0 := of_decide_eq_true hnv
          obtain rfl : m1 = true := ht
          have hbit : ¬ fl / 2 ^ 1 % 2 = 0 := of_decide_eq_true M1.out.symm
          obtain ⟨he, hok, hR⟩ := HM1.out.ok rfl
          subst he
          have HF := Aside0.mk (field g A c bs a 1023 w0 W W HM1.out.rd.from_ hb HM1.out.le hl)
          have hfr := field_range bs a 1023 hb HM1.out.le (by omega)
          obtain ⟨F, hF⟩ : ∃ F, F = fieldR bs a (most 1) := ⟨_, rfl⟩
          rw [show (1023 : Int) = most 1 from rfl] at HF hfr
          rw [← hF] at HF hfr
          have HF2 := Aside0.mk hF.symm
          clear hF hok hR
          obtain ⟨x, no, a', e'⟩ := F
          have hf0 : 0 ≤ x := hfr.1
          have hf1 : x ≤ 1023 := hfr.2.1
          clear hfr
          rw [show most 1 = 1023 from rfl] at HF
          go_wp2_with (go_at_call 91; refine HF.out.mono ?_; rintro e w2 ⟨rfl, hm⟩; have HX := Aside0.mk (HM1.out.rd.then_ hm); have BR2 := Aside0.mk (hm.stands HM1.out.br (by omega)); have BS2 := Aside0.mk (hm.stands HM1.out.bs_ (by omega)); clear hm; obtain ⟨d0, d1, d2, d3, g0, g1, g2, g3⟩ := cell4 BS2.out)
          go_meet
          have HM2 := Mid.step (i := 1) (d := 2) (s1 := ⟨s.f0, x, s.f2, s.f3⟩) (W2 := w2.setCell ⟨w.heap.size + 1, 1, none⟩ (.int .u16 x)) hb rfl (by omega) hbit HM1.out (by rw [HF2.out]; exact HX.out.far (by omega) (by omega) hww _) (blk_far BR2.out (p := ⟨w.heap.size + 1, 1, none⟩) (by simp) _) (by have := blk_set BS2.out 1 (.int .u16 x); simpa [cells] using this) (fun _ => by rw [HF2.out]; simp only [setF]; rw [if_neg (by omega)])
          rw [HF2.out] at HM2
          exact ⟨_, _, _, _, rfl, ⟨HM2⟩⟩
        · have ht2 := HT1.out.symm
          replace ht2 := Aside0.mk ht2
          go_wp2
          go_meet
          exact ⟨_, _, _, _, rfl, ⟨HM1.out.skip (d := 2) (fun h0 => by
            have h1 := M1.out
            have h2 := ht2.out
            rw [decide_eq_true h0, Bool.and_true] at h2
            rw [h2] at h1
            simpa using h1.symm)⟩⟩
      obtain ⟨s, a, e, nv, rfl, HM1⟩ := hcut
      obtain ⟨W, rfl⟩ : ∃ W, W = wc := ⟨_, rfl⟩

      have h2 := H2.out
      go_upto_region 15 with fail
      go_cut [6, 56] (fun no t wx => no = .int .i64 nv ∧ (∃ t0, t = .bool t0 ∧ Aside0 (t0 = (m2 && decide (nv = 0)))) ∧ wx = W)
      case first =>
        by_cases hnv : nv = 0
        · have q1 : (nv == 0) = true := by simpa using hnv
          have q2 : decide (nv = 0) = true := decide_eq_true hnv
          cases m2
          all_goals (go_wp2; go_meet; exact ⟨rfl, ⟨_, rfl, ⟨by simp [q2]⟩⟩, rfl⟩)
        · have q1 : (nv == 0) = false := by simpa using hnv
          have q2 : decide (nv = 0) = false := decide_eq_false hnv
          cases m2
          all_goals (go_wp2; go_meet; exact ⟨rfl, ⟨_, rfl, ⟨by simp [q2]⟩⟩, rfl⟩)
      obtain ⟨rfl, ⟨t2, rfl, HT2⟩, hw⟩ := hcut
      replace hw := hw.symm
      subst hw
      clear h2 H2
      go_upto_if 56 with fail

      go_cut [6] (fun no wx => ∃ (s : S28) (a : Nat) (e nv : Int), no = .int .i64 nv ∧ Aside0 (Mid w0 w g A c bs fl R 1 s a e nv wx))
      case first =>
        cases t2
        rotate_left
        · have ht := HT2.out.symm
          rw [Bool.and_eq_true] at ht
          obtain ⟨ht, hnv⟩ := ht
          obtain rfl : nv = 0 := of_decide_eq_true hnv
          obtain rfl : m2 = true := ht
          have hbit : ¬ fl / 2 ^ 2 % 2 = 0 := of_decide_eq_true M2.out.symm
          obtain ⟨he, hok, hR⟩ := HM1.out.ok rfl
          subst he
          have HF := Aside0.mk (field g A c bs a 1023 w0 W W HM1.out.rd.from_ hb HM1.out.le hl)
          have hfr := field_range bs a 1023 hb HM1.out.le (by omega)
          obtain ⟨F, hF⟩ : ∃ F, F = fieldR bs a (most 2) := ⟨_, rfl⟩
          rw [show (1023 : Int) = most 2 from rfl] at HF hfr
          rw [← hF] at HF hfr
          have HF2 := Aside0.mk hF.symm
          clear hF hok hR
          obtain ⟨x, no, a', e'⟩ := F
          have hf0 : 0 ≤ x := hfr.1
          have hf1 : x ≤ 1023 := hfr.2.1
          clear hfr
          rw [show most 2 = 1023 from rfl] at HF
          go_wp2_with (go_at_call 91; refine HF.out.mono ?_; rintro e w2 ⟨rfl, hm⟩; have HX := Aside0.mk (HM1.out.rd.then_ hm); have BR2 := Aside0.mk (hm.stands HM1.out.br (by omega)); have BS2 := Aside0.mk (hm.stands HM1.out.bs_ (by omega)); clear hm; obtain ⟨d0, d1, d2, d3, g0, g1, g2, g3⟩ := cell4 BS2.out)
          go_meet
          have HM2 := Mid.step (i := 2) (d := 1) (s1 := ⟨s.f0, s.f1, x, s.f3⟩) (W2 := w2.setCell ⟨w.heap.size + 1, 2, none⟩ (.int .u16 x)) hb rfl (by omega) hbit HM1.out (by rw [HF2.out]; exact HX.out.far (by omega) (by omega) hww _) (blk_far BR2.out (p := ⟨w.heap.size + 1, 2, none⟩) (by simp) _) (by have := blk_set BS2.out 2 (.int .u16 x); simpa [cells] using this) (fun _ => by rw [HF2.out]; simp only [setF]; rw [if_neg (by omega)])
          rw [HF2.out] at HM2
          exact ⟨_, _, _, _, rfl, ⟨HM2⟩⟩
        · have ht2 := HT2.out.symm
          replace ht2 := Aside0.mk ht2
          go_wp2
          go_meet
          exact ⟨_, _, _, _, rfl, ⟨HM1.out.skip (d := 1) (fun h0 => by
            have h1 := M2.out
            have h2 := ht2.out
            rw [decide_eq_true h0, Bool.and_true] at h2
            rw [h2] at h1
            simpa using h1.symm)⟩⟩
      obtain ⟨s, a, e, nv, rfl, HM1⟩ := hcut
      obtain ⟨W, rfl⟩ : ∃ W, W = wc := ⟨_, rfl⟩

      have h3 := H3.out
      go_upto_region 18 with fail
      go_cut [6, 71] (fun no t wx => no = .int .i64 nv ∧ (∃ t0, t = .bool t0 ∧ Aside0 (t0 = (m3 || !decide (nv = 0)))) ∧ wx = W)
      case first =>
        by_cases hnv : nv = 0
        · have q1 : (nv != 0) = false := by simpa using hnv
          have q2 : decide (nv = 0) = true := decide_eq_true hnv
          cases m3
          all_goals (go_wp2; go_meet; exact ⟨rfl, ⟨_, rfl, ⟨by simp [q2]⟩⟩, rfl⟩)
        · have q1 : (nv != 0) = true := by simpa using hnv
          have q2 : decide (nv = 0) = false := decide_eq_false hnv
          cases m3
          all_goals (go_wp2; go_meet; exact ⟨rfl, ⟨_, rfl, ⟨by simp [q2]⟩⟩, rfl⟩)
      obtain ⟨rfl, ⟨t3, rfl, HT3⟩, hw⟩ := hcut
      replace hw := hw.symm
      subst hw
      clear h3 H3
      cases t3
      rotate_left
      · obtain ⟨d0, d1, d2, d3, g0, g1, g2, g3⟩ := cell4 HM1.out.bs_
        obtain ⟨c0, c1, c2, c3, f0, f1, f2, f3⟩ := cell4 HM1.out.br
        go_wp2
        try simp only [Exit.inBlock, Exit.then]
        have hR : R.1 = nv ∧ (R.1 = 0 → s = R.2.1 ∧ a = R.2.2 ∧ e = 0) := by
          by_cases hnv : nv = 0
          · obtain ⟨h1, _, h2⟩ := HM1.out.ok hnv
            have h3 := HT3.out
            rw [decide_eq_true hnv, Bool.not_true, Bool.or_false] at h3
            have h4 := M3.out
            rw [← h3] at h4
            simp only [fieldsR] at h2
            rw [if_pos (of_decide_eq_true h4.symm)] at h2
            rw [← h2]
            exact ⟨hnv.symm, fun _ => ⟨rfl, rfl, h1⟩⟩
          · have h1 := HM1.out.no hnv
            exact ⟨h1, fun h => absurd (h1.symm.trans h) hnv⟩
        exact endsR (s := s) (put4_blk HM1.out.br s) rfl (by rw [hR.1]; rfl) (fun h => (hR.2 h).1) (HM1.out.rd.far4 (Nat.le_refl _) (by omega) hww s) (fun h => (hR.2 h).2)
      · have hnv : nv = 0 := by
          have h3 := HT3.out
          by_cases h : nv = 0
          · exact h
          · rw [decide_eq_false h, Bool.not_false, Bool.or_true] at h3
            cases h3
        subst hnv
        obtain ⟨he, hok, hR⟩ := HM1.out.ok rfl
        subst he
        have hbit : ¬ fl / 2 ^ 3 % 2 = 0 := fun h => by
          have h3 := HT3.out
          have h4 := M3.out
          rw [decide_eq_true h] at h4
          rw [h4] at h3
          cases h3
        simp only [fieldsR] at hR
        rw [if_neg hbit] at hR
        have HI := Aside0.mk (int_ g A c bs a 0 w0 W W HM1.out.rd.from_ hb HM1.out.le hl)
        have hu := (uintR_le bs a 0 hb HM1.out.le).2
        have hz := unzig_range (uintR bs a 0).1 hu
        obtain ⟨⟨x, a', e'⟩, hF⟩ : ∃ F, F = uintR bs a 0 := ⟨_, rfl⟩
        rw [← hF] at HI hR hz
        clear hF hu HT3 M0 M1 M2 M3
        simp only at HI hR hz
        obtain ⟨n, hn⟩ : ∃ n, n = Nums3.unzig x := ⟨_, rfl⟩
        rw [← hn] at HI hz
        simp only [if_true] at hR
        rw [← hn] at hR
        clear hn
        have hnx := hz.2.2
        have hn1 := hz.1
        have hn2 := hz.2.1
        clear hz
        by_cases he : e' = 0
        · rw [if_neg (by simpa using he)] at hR
          subst he
          by_cases hx : x = 0
          · rw [if_pos hx] at hR
            have HR := Aside0.mk hR
            obtain rfl : n = 0 := hnx.2 hx
            clear hR hnx hx
            go_wp2_with (go_at_call 92; refine HI.out.mono ?_; rintro e w2 ⟨rfl, hm⟩; have HX := Aside0.mk (HM1.out.rd.then_ hm); have BR2 := Aside0.mk (hm.stands HM1.out.br (by omega)); have BS2 := Aside0.mk (hm.stands HM1.out.bs_ (by omega)); obtain ⟨k0, k1, k2, _, _⟩ := hm.look; clear hm; obtain ⟨d0, d1, d2, d3, g0, g1, g2, g3⟩ := cell4 BS2.out; obtain ⟨c0, c1, c2, c3, f0, f1, f2, f3⟩ := cell4 BR2.out)
            try simp only [Exit.inBlock, Exit.then]
            exact endsR (s := s) (put4_blk BR2.out s) rfl (by rw [← HR.out]; rfl) (fun h => by rw [← HR.out] at h; cases h) (HX.out.far4 (Nat.le_refl _) (by omega) hww s) (fun h => by rw [← HR.out] at h; cases h)
          · rw [if_neg hx] at hR
            have hn0 : (n == 0) = false := by
              rw [beq_eq_false_iff_ne]
              exact fun h => hx (hnx.1 h)
            have hokk : okSpot (setF s 3 n) = decide (-1 ≤ n ∧ n ≤ 128) := by
              simp only [okSpot, Bool.and_eq_true, decide_eq_true_eq] at hok
              simp only [okSpot, setF]
              rw [decide_eq_true hok.1, decide_eq_true hok.2.1, decide_eq_true hok.2.2.1]
              simp
            rw [hokk] at hR
            clear hnx hx hokk
            by_cases hlo : n < -1
            · rw [if_neg (by rw [decide_eq_true_eq]; omega)] at hR
              have HR := Aside0.mk hR
              have q1 : decide (n < -1) = true := decide_eq_true hlo
              clear hR
              go_wp2_with (go_at_call 92; refine HI.out.mono ?_; rintro e w2 ⟨rfl, hm⟩; have HX := Aside0.mk (HM1.out.rd.then_ hm); have BR2 := Aside0.mk (hm.stands HM1.out.br (by omega)); have BS2 := Aside0.mk (hm.stands HM1.out.bs_ (by omega)); obtain ⟨k0, k1, k2, _, _⟩ := hm.look; clear hm; obtain ⟨d0, d1, d2, d3, g0, g1, g2, g3⟩ := cell4 BS2.out; obtain ⟨c0, c1, c2, c3, f0, f1, f2, f3⟩ := cell4 BR2.out)
              try simp only [Exit.inBlock, Exit.then]
              exact endsR (s := s) (put4_blk BR2.out s) rfl (by rw [← HR.out]; rfl) (fun h => by rw [← HR.out] at h; cases h) (HX.out.far4 (Nat.le_refl _) (by omega) hww s) (fun h => by rw [← HR.out] at h; cases h)
            · have q1 : decide (n < -1) = false := decide_eq_false hlo
              by_cases hhi : 128 < n
              · rw [if_neg (by rw [decide_eq_true_eq]; omega)] at hR
                have HR := Aside0.mk hR
                have q2 : decide (128 < n) = true := decide_eq_true hhi
                clear hR
                go_wp2_with (go_at_call 92; refine HI.out.mono ?_; rintro e w2 ⟨rfl, hm⟩; have HX := Aside0.mk (HM1.out.rd.then_ hm); have BR2 := Aside0.mk (hm.stands HM1.out.br (by omega)); have BS2 := Aside0.mk (hm.stands HM1.out.bs_ (by omega)); obtain ⟨k0, k1, k2, _, _⟩ := hm.look; clear hm; obtain ⟨d0, d1, d2, d3, g0, g1, g2, g3⟩ := cell4 BS2.out; obtain ⟨c0, c1, c2, c3, f0, f1, f2, f3⟩ := cell4 BR2.out)
                try simp only [Exit.inBlock, Exit.then]
                exact endsR (s := s) (put4_blk BR2.out s) rfl (by rw [← HR.out]; rfl) (fun h => by rw [← HR.out] at h; cases h) (HX.out.far4 (Nat.le_refl _) (by omega) hww s) (fun h => by rw [← HR.out] at h; cases h)
              · rw [if_pos (by rw [decide_eq_true_eq]; omega)] at hR
                have HR := Aside0.mk hR
                have q2 : decide (128 < n) = false := decide_eq_false hhi
                clear hR
                go_wp2_with (go_at_call 92; refine HI.out.mono ?_; rintro e w2 ⟨rfl, hm⟩; have HX := Aside0.mk (HM1.out.rd.then_ hm); have BR2 := Aside0.mk (hm.stands HM1.out.br (by omega)); have BS2 := Aside0.mk (hm.stands HM1.out.bs_ (by omega)); obtain ⟨k0, k1, k2, _, _⟩ := hm.look; clear hm; obtain ⟨d0, d1, d2, d3, g0, g1, g2, g3⟩ := cell4 BS2.out; obtain ⟨c0, c1, c2, c3, f0, f1, f2, f3⟩ := cell4 BR2.out)
                try simp only [Exit.inBlock, Exit.then]
                have B3 := put4_blk (blk_far BR2.out (p := ⟨w.heap.size + 1, 3, none⟩) (by simp) (.int .i64 n)) ⟨s.f0, s.f1, s.f2, n⟩
                have B4 := (HX.out.far (j := 3) (k := w.heap.size + 1) (by omega) (by omega) hww (.int .i64 n)).far4 (Nat.le_refl _) (by omega) hww ⟨s.f0, s.f1, s.f2, n⟩
                simp only [put4] at B3 B4
                exact endsR (s := ⟨s.f0, s.f1, s.f2, n⟩) B3 rfl (by rw [← HR.out]; rfl) (fun h => by rw [← HR.out]; rfl) B4 (fun h => by rw [← HR.out]; exact ⟨rfl, rfl⟩)
        · rw [if_pos (by simpa using he)] at hR
          have HR := Aside0.mk hR
          clear hR hnx
          have b4 : (e' != 0) = true := by simpa using he
          go_wp2_with (go_at_call 92; refine HI.out.mono ?_; rintro e w2 ⟨rfl, hm⟩; have HX := Aside0.mk (HM1.out.rd.then_ hm); have BR2 := Aside0.mk (hm.stands HM1.out.br (by omega)); have BS2 := Aside0.mk (hm.stands HM1.out.bs_ (by omega)); obtain ⟨k0, k1, k2, _, _⟩ := hm.look; clear hm; obtain ⟨d0, d1, d2, d3, g0, g1, g2, g3⟩ := cell4 BS2.out; obtain ⟨c0, c1, c2, c3, f0, f1, f2, f3⟩ := cell4 BR2.out)
          go_region_calls
          all_goals go_wp2
          all_goals try simp only [Exit.inBlock, Exit.then]
          all_goals exact endsR (s := s) (blk_drew (put4_blk BR2.out s)) rfl (by rw [← HR.out]; rfl) (fun h => by rw [← HR.out] at h; exact absurd h he) (HX.out.far4 (Nat.le_refl _) (by omega) hww s).drew (fun h => by rw [← HR.out] at h; exact absurd h he)
  · rw [if_neg he0]
    obtain ⟨rfl, rfl⟩ : e0 = 2 ∧ fl = 0 := by
      rcases hbr.2.2.2 with h | h
      · exact absurd h he0
      · exact h
    go_enter Try.func56, Try.ntmps56
    go_wp2_with (go_at_call 90; refine HBy.out.mono ?_; rintro e w1 ⟨rfl, hm⟩; have HM1 := Aside0.mk (H.out.then_ hm); have BR1 := Aside0.mk (hm.stands BR.out (by omega)); have BS1 := Aside0.mk (hm.stands BS.out (by omega)); obtain ⟨k0, k1, k2, _, _⟩ := hm.look; clear hm; obtain ⟨c0, c1, c2, c3, f0, f1, f2, f3⟩ := cell4 BR1.out; obtain ⟨d0, d1, d2, d3, g0, g1, g2, g3⟩ := cell4 BS1.out)
    go_region_calls
    all_goals go_wp2
    all_goals try simp only [Exit.inBlock, Exit.then]
    all_goals exact endsR (s := SpotOf.z28) (blk_drew (put4_blk BR1.out SpotOf.z28)) rfl rfl (fun h => by cases h) (HM1.out.far4 (Nat.le_refl _) (by omega) hww SpotOf.z28).drew (fun h => by cases h)
end Go.Proofs.Ytjeaojolhdfpeaa.RefReader
