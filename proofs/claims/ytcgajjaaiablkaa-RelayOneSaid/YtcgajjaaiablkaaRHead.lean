/- Relay: a reader made, its error, what it has left, its end; and what stands ahead of a parcel. -/
import Derived.Test.YtcgajjaaiablkaaRHd
import Derived.Test.YtcgajjaaiablkaaShaSum
import Derived.Deep.RegionHeld3
import Derived.Deep.DeepCutAuto
namespace Go.Proofs.Ytcgajjaaiablkaa.RHead
open Go.RowKit Go.Proofs.YtcgajjaaiablkaaW.PrintWords Go.Proofs.YtcgajjaaiablkaaW.PrintLast Go.Proofs.YtcgajjaaiablkaaW.PrintMore
open Go.Proofs.Ytcgajjaaiablkaa.PRelaySealed Go.Proofs.Ytcgajjaaiablkaa.Reader Go.Proofs.Ytcgajjaaiablkaa.RRaw Go.Proofs.Ytcgajjaaiablkaa.RCount Go.Proofs.Ytcgajjaaiablkaa.RText Go.Proofs.Ytcgajjaaiablkaa.RWord Go.Proofs.Ytcgajjaaiablkaa.RefRd Go.Proofs.Ytcgajjaaiablkaa.ShaP Go.Proofs.Ytcgajjaaiablkaa.ShaEnd Go.Proofs.Ytcgajjaaiablkaa.RHd
set_option linter.unusedVariables false
set_option linter.unusedSimpArgs false

set_option maxHeartbeats 8000000 in
set_option maxRecDepth 100000 in
theorem err_ (g : Nat) (bs : List Int) (a err : Int) (w0 w : World) (hI : Rd w0 w g bs a err) :
    Calls Try.prog 40 #[.pointer (some ⟨g, 0, none⟩)] w fun e w' => e = .returned (.int .i64 err) ∧ w' = w := by
  obtain ⟨A, c, h0, h1, h2, f1, f2, hmax⟩ := Reader.look hI
  clear hI
  go_enter Try.func40, Try.ntmps40
  go_wp2
  go_ret
  exact ⟨rfl, rfl⟩
def r69_1_T : Bool × List (List Nat × List Nat) := (true, [([], []), ([0], [0]), ([1], [1]), ([2], [2]), ([3], [3]), ([], []), ([5], [5]), ([6], [6]), ([7], [7]), ([4, 8], [4, 8]), ([9, 0, 1, 2, 3, 4, 5, 6, 7, 8, 9], [9])])
def r69_1_B : List Nat := [0, 1, 3, 7, 15, 0, 32, 96, 224, 511, 1023]
theorem r69_1_tab : rtab .any (opsOf Try.f69 1) = r69_1_T := by kernel_rfl
theorem r69_1_bits : waitsOk r69_1_T.2 r69_1_B = true := by kernel_rfl
set_option maxHeartbeats 8000000 in
set_option maxRecDepth 100000 in
theorem left_ (g : Nat) (bs : List Int) (a : Nat) (err : Int) (w0 w : World) (hI : Rd w0 w g bs a err) (hB : Below w0.heap.size w0 w) (ha : a ≤ bs.length) :
    Calls Try.prog 69 #[.pointer (some ⟨g, 0, none⟩)] w fun e w' => e = .returned (.int .i64 ((bs.length - a : Nat) : Int)) ∧ Moved w0 w w' g bs a err := by
  have HM := Aside0.mk (Moved.refl hI hB).drew
  obtain ⟨A, c, h0, h1, h2, f1, f2, hmax⟩ := Reader.look hI
  have hw : wrap64 ((bs.length : Int) - (a : Int)) = ((bs.length - a : Nat) : Int) := by unfold wrap64; omega
  clear hI
  have Z := Aside0.mk (And.intro h0 h1)
  go_enter Try.func69, Try.ntmps69
  go_wp2_with fail
  refine start_ (n := 11) (S := fun w' => w'.cell? ⟨g, 0, none⟩ = some (.slice A bs.length c) ∧ w'.cell? ⟨g, 1, none⟩ = some (.int .i64 (a : Int))) (ds := []) #[false, false, false, false, false, false, false, false, false, false, false] (by kernel_rfl) rfl rfl Z.out (fun hHeld => ?_)
  refine with_tabW r69_1_tab r69_1_bits (fun HT_ HW_ => ?_)
  generalize World.drew w = W2 at HM hHeld ⊢
  refine pure_ (i := 0) (N := some 3) (v := ?_) (a' := ?_) #[true, false, false, false, false, false, false, false, false, false, false] rfl rfl (any_of HT_.out (by kernel_rfl)) (fun _ _ _ h => h) (Or.inl ⟨by rfl, ?_⟩) ?_ ?_
  rotate_left
  · intro w'
    go_simp
    with_reducible rfl
  rotate_left
  · simp only [Act.put, List.setIfInBounds_toArray, List.set_cons_zero, List.set_cons_succ, i64_w, i32_w]
    rfl
  refine pure_ (i := 1) (N := some 4) (v := ?_) (a' := ?_) #[true, true, false, false, false, false, false, false, false, false, false] rfl rfl (any_of HT_.out (by kernel_rfl)) (fun _ _ _ h => h) (Or.inl ⟨by rfl, ?_⟩) ?_ ?_
  rotate_left
  · intro w'
    go_simp
    with_reducible rfl
  rotate_left
  · simp only [Act.put, List.setIfInBounds_toArray, List.set_cons_zero, List.set_cons_succ, i64_w, i32_w]
    rfl
  refine pure_ (i := 2) (N := some 5) (v := ?_) (a' := ?_) #[true, true, true, false, false, false, false, false, false, false, false] rfl rfl (any_of HT_.out (by kernel_rfl)) (fun _ _ _ h => h) (Or.inl ⟨by rfl, ?_⟩) ?_ ?_
  rotate_left
  · intro w'
    go_simp
    with_reducible rfl
  rotate_left
  · simp only [Act.put, List.setIfInBounds_toArray, List.set_cons_zero, List.set_cons_succ, i64_w, i32_w]
    rfl
  refine take_ (i := 3) (N := some 6) (v := ?_) (a' := ?_) #[true, true, true, true, false, false, false, false, false, false, false] rfl rfl (take_ofW HT_.out HW_.out (by kernel_rfl)) (fun _ _ _ h => h) (Or.inl ⟨by rfl, ?_⟩) hHeld ?_ ?_
  rotate_left
  · rintro w' ⟨s0, s1⟩
    go_simp
    with_reducible rfl
  rotate_left
  · simp only [Act.put, List.setIfInBounds_toArray, List.set_cons_zero, List.set_cons_succ, i64_w, i32_w]
    rfl
  refine pure_ (i := 4) (N := some 7) (v := ?_) (a' := ?_) #[true, true, true, true, true, false, false, false, false, false, false] rfl rfl (any_of HT_.out (by kernel_rfl)) (fun _ _ _ h => h) (Or.inl ⟨by rfl, ?_⟩) ?_ ?_
  rotate_left
  · intro w'
    go_simp
    with_reducible rfl
  rotate_left
  · simp only [Act.put, List.setIfInBounds_toArray, List.set_cons_zero, List.set_cons_succ, i64_w, i32_w]
    rfl
  refine pure_ (i := 5) (N := some 8) (v := ?_) (a' := ?_) #[true, true, true, true, true, true, false, false, false, false, false] rfl rfl (any_of HT_.out (by kernel_rfl)) (fun _ _ _ h => h) (Or.inl ⟨by rfl, ?_⟩) ?_ ?_
  rotate_left
  · intro w'
    go_simp
    with_reducible rfl
  rotate_left
  · simp only [Act.put, List.setIfInBounds_toArray, List.set_cons_zero, List.set_cons_succ, i64_w, i32_w]
    rfl
  refine pure_ (i := 6) (N := some 9) (v := ?_) (a' := ?_) #[true, true, true, true, true, true, true, false, false, false, false] rfl rfl (any_of HT_.out (by kernel_rfl)) (fun _ _ _ h => h) (Or.inl ⟨by rfl, ?_⟩) ?_ ?_
  rotate_left
  · intro w'
    go_simp
    with_reducible rfl
  rotate_left
  · simp only [Act.put, List.setIfInBounds_toArray, List.set_cons_zero, List.set_cons_succ, i64_w, i32_w]
    rfl
  refine pure_ (i := 7) (N := some 10) (v := ?_) (a' := ?_) #[true, true, true, true, true, true, true, true, false, false, false] rfl rfl (any_of HT_.out (by kernel_rfl)) (fun _ _ _ h => h) (Or.inl ⟨by rfl, ?_⟩) ?_ ?_
  rotate_left
  · intro w'
    go_simp
    with_reducible rfl
  rotate_left
  · simp only [Act.put, List.setIfInBounds_toArray, List.set_cons_zero, List.set_cons_succ, i64_w, i32_w]
    rfl
  refine take_ (i := 8) (N := some 11) (v := ?_) (a' := ?_) #[true, true, true, true, true, true, true, true, true, false, false] rfl rfl (take_ofW HT_.out HW_.out (by kernel_rfl)) (fun _ _ _ h => h) (Or.inl ⟨by rfl, ?_⟩) hHeld ?_ ?_
  rotate_left
  · rintro w' ⟨s0, s1⟩
    go_simp
    with_reducible rfl
  rotate_left
  · simp only [Act.put, List.setIfInBounds_toArray, List.set_cons_zero, List.set_cons_succ, i64_w, i32_w]
    rfl
  refine pure_ (i := 9) (N := some 12) (v := ?_) (a' := ?_) #[true, true, true, true, true, true, true, true, true, true, false] rfl rfl (any_of HT_.out (by kernel_rfl)) (fun _ _ _ h => h) (Or.inl ⟨by rfl, ?_⟩) ?_ ?_
  rotate_left
  · intro w'
    go_simp
    with_reducible rfl
  rotate_left
  · simp only [Act.put, List.setIfInBounds_toArray, List.set_cons_zero, List.set_cons_succ, i64_w, i32_w]
    rfl
  refine pure_ (i := 10) (N := some 2) (v := ?_) (a' := ?_) #[true, true, true, true, true, true, true, true, true, true, true] rfl rfl (any_of HT_.out (by kernel_rfl)) (fun _ _ _ h => h) (Or.inl ⟨by rfl, ?_⟩) ?_ ?_
  rotate_left
  · intro w'
    go_simp
    with_reducible rfl
  rotate_left
  · simp only [Act.put, List.setIfInBounds_toArray, List.set_cons_zero, List.set_cons_succ, i64_w, i32_w]
    rfl
  refine done_ (done_of HT_.out (by kernel_rfl)) ?_
  go_wp2
  go_ret
  exact ⟨by rw [← hw]; rfl, HM.out⟩
set_option maxHeartbeats 8000000 in
set_option maxRecDepth 100000 in
theorem end_ (g : Nat) (bs : List Int) (a : Nat) (err : Int) (w0 w : World) (hI : Rd w0 w g bs a err) (hB : Below w0.heap.size w0 w) (ha : a ≤ bs.length) :
    Calls Try.prog 42 #[.pointer (some ⟨g, 0, none⟩)] w fun e w' => e = .returned (.int .i64 (endR bs a err)) ∧ Moved w0 w w' g bs a err := by
  have HM := Aside0.mk (Moved.refl hI hB)
  have HL := Aside0.mk (left_ g bs a err w0 w hI hB ha)
  obtain ⟨A, c, h0, h1, h2, f1, f2, hmax⟩ := Reader.look hI
  clear hI
  unfold endR
  by_cases he : err = 0
  · subst he
    by_cases hlt : a < bs.length
    · rw [if_pos ⟨rfl, hlt⟩]
      have p1 : decide ((0 : Int) < ((bs.length - a : Nat) : Int)) = true := by simp; omega
      have p2 : (0 < bs.length - a) = True := by simp; omega
      go_enter Try.func42, Try.ntmps42
      go_wp2_with (go_at_call 69; refine HL.out.mono ?_; rintro e w1 ⟨rfl, hm⟩; have HM1 := Aside0.mk hm; clear hm)
      go_ret
      exact ⟨rfl, HM1.out⟩
    · rw [if_neg (fun h => hlt h.2)]
      have p1 : decide ((0 : Int) < ((bs.length - a : Nat) : Int)) = false := by simp; omega
      have p2 : (0 < bs.length - a) = False := by simp; omega
      clear h0 h1 h2 f1 f2
      go_enter Try.func42, Try.ntmps42
      obtain ⟨A, c, h0, h1, h2, f1, f2, hmax⟩ := Reader.look HM.out.rd
      go_upto_region 3 with (go_at_call 69; refine HL.out.mono ?_; rintro e w1 ⟨rfl, hm⟩; have HM1 := Aside0.mk hm; clear hm)
      clear h0 h1 h2 f1 f2
      obtain ⟨A, c, h0, h1, h2, f1, f2, hmax⟩ := Reader.look HM1.out.rd
      go_wp2
      go_ret
      exact ⟨rfl, HM1.out⟩
  · rw [if_neg (fun h => he h.1)]
    have b1 : (err == 0) = false := by simpa using he
    have b2 : decide (err = 0) = false := by simpa using he
    go_enter Try.func42, Try.ntmps42
    go_wp2
    go_ret
    exact ⟨rfl, HM.out⟩
set_option maxHeartbeats 8000000 in
set_option maxRecDepth 100000 in
/-- A reader is made over a copy of the bytes. -/
theorem new_ (A : Option Addr) (c : Nat) (bs : List Int) (w : World) (hr : Kd.C (Kd.int .u8) w A bs.length bs) (hl : bs.length ≤ 140737488355328) :
    Calls Try.prog 36 #[.slice A bs.length c] w fun e w' => ∃ w1 g, e = .returned (.pointer (some ⟨g, 0, none⟩)) ∧ Rd w1 w' g bs 0 0 ∧ Below w.heap.size w w1 ∧ Below w1.heap.size w1 w' := by
  have H := Aside0.mk (Clone.clone w w bs A bs.length c (Below.refl _ _) hr hl)
  clear hr
  go_enter Try.func36, Try.ntmps36
  go_wp2_with (go_at_call 67; refine H.out.mono ?_; rintro e w1 ⟨v, rfl, hR, hb⟩; obtain ⟨A', c', rfl⟩ := Kd.R_slice hR; have HR := Aside0.mk (Kd.R_reads' hR); have HB := Aside0.mk hb; clear hR hb)
  go_ret
  exact ⟨w1, w1.heap.size, rfl, ⟨A', c', blk_new _ _, Nat.le_refl _, HR.out.2.2, HR.out.2.1⟩, HB.out, below_alloc (Below.refl _ _) _⟩

/-- The rest of a row from a place on. -/
theorem cut_drop (A : Option Addr) (c : Nat) (b : List Int) (n : Nat) (hn : n ≤ b.length) (hc : b.length ≤ c) :
    ∃ A' c', (∀ W : World, (Instr.slice 33 (.slice A b.length c) (some (.int .i64 (n : Int))) none none).run Try.prog W = .ok (.slice A' (b.drop n).length c') W) ∧ (∀ W, Kd.C (Kd.int .u8) W A b.length b → Kd.C (Kd.int .u8) W A' (b.drop n).length (b.drop n)) ∧ (b.drop n).length ≤ c' := by
  obtain ⟨i5, hi5, _, hs5, _⟩ := info_parts info5_
  have h := cut_from (P := Try.prog) 33 5 .i64 Try.underlying33 hi5 1 hs5 A b.length c (n : Int) (by omega) (by omega)
  refine ⟨_, _, fun W => by rw [h W, List.length_drop, Int.toNat_natCast], fun W hC => ?_, by rw [List.length_drop]; omega⟩
  have := Kd.C_drop (k := Kd.int .u8) (m := n) (c := c) hC hn hc
  exact this
theorem map_inj {a b : List Int} (ha : Bytes a) (hb : Bytes b) (h : (a.map fun n => UInt8.ofNat n.toNat) = b.map fun n => UInt8.ofNat n.toNat) : a = b := by
  induction a generalizing b with
  | nil => cases b with
    | nil => rfl
    | cons y b => simp at h
  | cons x a ih => cases b with
    | nil => simp at h
    | cons y b =>
      simp only [List.map_cons, List.cons.injEq] at h
      have hx := ha x (by simp)
      have hy := hb y (by simp)
      have e : x = y := by
        have h1 := congrArg UInt8.toNat h.1
        simp only [UInt8.toNat_ofNat'] at h1
        omega
      rw [e, ih (fun z hz => ha z (by simp [hz])) (fun z hz => hb z (by simp [hz])) h.2]
theorem ptr4_bytes : Bytes ptr4 := by unfold ptr4 Bytes; decide
/-- A block of bytes, read as a slice. -/
theorem C_blk {W : World} {g : Nat} {l : List Int} {t : TypeId} (h : W.heap[g]? = some (.cells (u8s l) t (0, 0))) (hl : l.length ≤ 9223372036854775807) : Kd.C (Kd.int .u8) W (some ⟨g, 0, none⟩) l.length l := by
  refine ⟨rfl, hl, fun _ => ⟨_, rfl, fun j p hj => ⟨[.int .u8 p], rfl, rfl, fun i u hu => ?_⟩⟩⟩
  have hu' : i = 0 ∧ u = .int .u8 p := by
    cases i with
    | zero => simpa using hu.symm
    | succ i => simp at hu
  obtain ⟨rfl, rfl⟩ := hu'
  have h1 := blk_cell h (j * 1 + 0)
  have h2 : (u8s l)[j * 1 + 0]? = some (.int .u8 p) := by simp [u8s, hj]
  rw [h2] at h1
  have e : (⟨g, 0, none⟩ : Addr).add (j * 1 + 0) = ⟨g, j * 1 + 0, none⟩ := by cases j <;> simp [Addr.add]
  show W.cell? ((⟨g, 0, none⟩ : Addr).add (j * 1 + 0)) = _
  rw [e]
  exact h1
end Go.Proofs.Ytcgajjaaiablkaa.RHead
