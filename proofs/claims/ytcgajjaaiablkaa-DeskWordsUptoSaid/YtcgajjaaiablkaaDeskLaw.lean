/- DeskWords, for every two lines that are not too long: the words and the error's number are the reference's, three times; the answers lie apart. -/
import Derived.Test.YtcgajjaaiablkaaDeskWalk2
import Derived.Test.YtcgajjaaiablkaaDeskApart
namespace Go.Proofs.Ytcgajjaaiablkaa.DeskLaw
open Go.RowKit Go.Proofs.YtcgajjaaiablkaaW.PrintWords Go.Proofs.YtcgajjaaiablkaaW.PrintLast Go.Proofs.YtcgajjaaiablkaaW.PrintMore
open Go.Proofs.Ytcgajjaaiablkaa.PDeskWords Go.Proofs.Ytcgajjaaiablkaa.Desk Go.Proofs.Ytcgajjaaiablkaa.DeskWalk Go.Proofs.Ytcgajjaaiablkaa.DeskApart Go.Proofs.Ytcgajjaaiablkaa.Fam
set_option linter.unusedVariables false
set_option linter.unusedSimpArgs false

theorem words_len (s : ByteArray) : ∀ (f i : Nat) (acc : List ByteArray), i ≤ s.size → (words s f i acc).1.length ≤ acc.length + (s.size - i) := by
  intro f
  induction f with
  | zero => intro i acc h; simp [words]
  | succ f ih =>
    intro i acc h
    simp only [words]
    by_cases hi : i < s.size
    · rw [if_pos hi]
      by_cases h1 : Desk.blank (at_ s i) = true
      · rw [if_pos h1]
        have := ih (i + 1) acc (by omega)
        omega
      rw [if_neg h1]
      by_cases h2 : at_ s i = 35
      · rw [if_pos h2]
        show acc.length ≤ _
        omega
      rw [if_neg h2]
      by_cases h3 : at_ s i = 34
      · rw [if_pos h3]
        cases hc : clo s (i + 1) with
        | none => simp
        | some e =>
          have hr := clo_range s _ (i + 1) e rfl hc
          simp only
          by_cases h4 : e < s.size ∧ Desk.blank (at_ s e) = false
          · rw [if_pos h4]; simp
          rw [if_neg h4]
          cases unquote (s.extract i e) with
          | none => simp
          | some l =>
            have := ih e (acc ++ [strOfNums l]) hr.2
            rw [List.length_append, List.length_singleton] at this
            simp only
            omega
      rw [if_neg h3]
      have hr : i < wend s i := by
        rw [wend_at, if_pos hi, if_neg h1]
        have := (wend_range s _ (i + 1) rfl (by omega)).1
        omega
      have hr2 := (wend_range s _ i rfl h).2
      have := ih (wend s i) (acc ++ [s.extract i (wend s i)]) hr2
      rw [List.length_append, List.length_singleton] at this
      omega
    · rw [if_neg hi]
      show acc.length ≤ _
      omega
theorem same_l0 (l : List ByteArray) (hl : l.length ≤ 9223372036854775807) (d : Nat) : ∀ i : Nat, l.length - i = d → Ev (fun k => portageref0_SameTexts.l0 k l l (i : Int)) true := by
  induction d with
  | zero =>
    intro i hi
    exact Ev.step (fun k => by simp only [portageref0_SameTexts.l0]; rw [if_neg (by omega)]) (Ev.now true)
  | succ d ih =>
    intro i hi
    refine Ev.step (fun k => ?_) (ih (i + 1) (by omega))
    simp only [portageref0_SameTexts.l0]
    rw [if_pos (by omega), if_pos (by omega), if_pos (by omega), if_pos trivial, show wrap64 ((i : Int) + 1) = ((i + 1 : Nat) : Int) by unfold wrap64; omega]
theorem same_texts (l : List ByteArray) (hl : l.length ≤ 9223372036854775807) : ∃ k, portageref0_SameTexts.f k l l = some true := by
  obtain ⟨k, hk⟩ := (same_l0 l hl _ 0 rfl).rounds
  refine ⟨k, ?_⟩
  unfold portageref0_SameTexts.f
  rw [if_pos rfl]
  exact hk
theorem num (a : Int) (w : World) : Calls Try.prog 9 #[.int .i64 a] w fun e w' => e = .returned (.int .i64 a) ∧ Drawn0 w w' := portagekit_Num.calls a a w rfl

/-- An answer's row: in blocks from lo to hi. -/
def Row (w W : World) (lo hi : Nat) (v : Value) (es : List ByteArray) : Prop := Kd.R Kd.string 9 W w.heap.size (fun k => lo ≤ k ∧ k < hi) v es
theorem Row.step {w W W1 : World} {lo hi : Nat} {v : Value} {es : List ByteArray} (h : Row w W lo hi v es) (hb : Below W.heap.size W W1) : Row w W1 lo hi v es := Kd.R_below h hb
theorem Row.new {w W W1 : World} {v : Value} {es : List ByteArray} (h : Kd.R Kd.string 9 W1 W.heap.size (fun _ => True) v es) (hw : w.heap.size ≤ W.heap.size) : Row w W1 W.heap.size W1.heap.size v es :=
  Kd.R_reok rfl (Kd.R_lower h hw) (fun k hk => ⟨Kd.R_base h k hk, Kd.R_lt h k hk⟩)
def vs3 (r0 r1 r2 : HS) : Nat → HS
  | 0 => r0
  | 1 => r1
  | _ => r2
def ls3 (a b c : List ByteArray) : Nat → List ByteArray
  | 0 => a
  | 1 => b
  | _ => c
theorem given3 {w W : World} {r0 r1 r2 : HS} {a0 b0 a1 b1 a2 b2 : Nat} {e0 e1 e2 : List ByteArray} (h0 : Row w W a0 b0 (hv r0) e0) (h1 : Row w W a1 b1 (hv r1) e1) (h2 : Row w W a2 b2 (hv r2) e2) (hb0 : b0 ≤ a1) (hb1 : b1 ≤ a2) (h12 : a1 ≤ b1) (hb : Below w.heap.size w W) : Given Kd.string 9 w W (vs3 r0 r1 r2) 3 (ls3 e0 e1 e2) := by
  refine ⟨hb, fun j hj => ?_, fun i hi j hj hne b hbi hbj => ?_⟩
  · match j, hj with
    | 0, _ => exact Kd.R_reok rfl h0 (fun b hb => hb.symm)
    | 1, _ => exact Kd.R_reok rfl h1 (fun b hb => hb.symm)
    | 2, _ => exact Kd.R_reok rfl h2 (fun b hb => hb.symm)
  · have k0 : ∀ b, (hv r0).ownBlock = some b → a0 ≤ b ∧ b < b0 := h0.1
    have k1 : ∀ b, (hv r1).ownBlock = some b → a1 ≤ b ∧ b < b1 := h1.1
    have k2 : ∀ b, (hv r2).ownBlock = some b → a2 ≤ b ∧ b < b2 := h2.1
    match i, hi, j, hj, hbi, hbj with
    | 0, _, 0, _, _, _ => exact hne rfl
    | 1, _, 1, _, _, _ => exact hne rfl
    | 2, _, 2, _, _, _ => exact hne rfl
    | 0, _, 1, _, hi, hj => have := k0 b hi; have := k1 b hj; omega
    | 0, _, 2, _, hi, hj => have := k0 b hi; have := k2 b hj; omega
    | 1, _, 0, _, hi, hj => have := k1 b hi; have := k0 b hj; omega
    | 1, _, 2, _, hi, hj => have := k1 b hi; have := k2 b hj; omega
    | 2, _, 0, _, hi, hj => have := k2 b hi; have := k0 b hj; omega
    | 2, _, 1, _, hi, hj => have := k2 b hi; have := k1 b hj; omega
theorem own3 {r0 r1 r2 : HS} {b : Nat} (h : Own (vs3 r0 r1 r2) 3 b) : (hv r0).ownBlock = some b ∨ (hv r1).ownBlock = some b ∨ (hv r2).ownBlock = some b := by
  obtain ⟨j, hj, h⟩ := h
  match j, hj, h with
  | 0, _, h => exact .inl h
  | 1, _, h => exact .inr (.inl h)
  | 2, _, h => exact .inr (.inr h)
theorem outer_C {W : World} {o : Nat} {l : List HS} (h : W.heap[o]? = some (.cells (l.map hv).toArray 22 (0, 0))) (hl : l.length ≤ 9223372036854775807) : kh.C W (some ⟨o, 0, none⟩) l.length l := by
  refine ⟨rfl, hl, fun _ => ⟨_, rfl, fun j p hp => ⟨[hv p], rfl, rfl, fun i u hu => ?_⟩⟩⟩
  have hi : i = 0 := by
    have := (List.getElem?_eq_some_iff.1 hu).1
    simp at this
    exact this
  subst hi
  have hu' : hv p = u := by simpa using hu
  subst hu'
  have h1 : (⟨o, 0, none⟩ : Addr).add (j * kh.sz + 0) = ⟨o, j, none⟩ := by
    have : j * kh.sz + 0 = j := by show j * 1 + 0 = j; omega
    rw [this, Addr.add_lit]
    simp
  rw [h1, blk_cell h j]
  simp [hp]
set_option maxHeartbeats 8000000 in
set_option maxRecDepth 100000 in
theorem law (s o : ByteArray) (w : World) (hs : s.size ≤ 1000000000000) (ho : o.size ≤ 1000000000000) :
    Calls Try.prog 3 #[.string s, .string o] w fun e w' => e = .returned (.bool true) ∧ Below w.heap.size w w' := by
  obtain ⟨sl, sn, hws⟩ : ∃ a b, words s (s.size + 1) 0 [] = (a, b) := ⟨_, _, rfl⟩
  obtain ⟨ol, on, hwo⟩ : ∃ a b, words o (o.size + 1) 0 [] = (a, b) := ⟨_, _, rfl⟩
  have hls : sl.length ≤ s.size := by have := words_len s (s.size + 1) 0 [] (by omega); rw [hws] at this; simpa using this
  have hlo : ol.length ≤ o.size := by have := words_len o (o.size + 1) 0 [] (by omega); rw [hwo] at this; simpa using this
  obtain ⟨ks, hks⟩ := same_texts sl (by omega)
  obtain ⟨ko, hko⟩ := same_texts ol (by omega)
  have HRS := Aside0.mk (fun w : World => ref_words s w sl sn hws hs)
  have HRO := Aside0.mk (fun w : World => ref_words o w ol on hwo ho)
  have HPS := Aside0.mk (fun w : World => words_calls s w sl sn hws hs)
  have HPO := Aside0.mk (fun w : World => words_calls o w ol on hwo ho)
  have HKS := Aside0.mk hks
  have HKO := Aside0.mk hko
  clear hws hwo hks hko
  go_enter Try.func3, Try.ntmps3
  go_wp2_with fail
  refine (HRS.out w).mono ?_
  rintro e w1 ⟨v1, rfl, h1, hb⟩
  have R1 := Aside0.mk (Row.new (w := w) h1 (Nat.le_refl _))
  have HB := Aside0.mk hb
  clear h1 hb
  go_wp2_with fail
  refine (HRO.out w1).mono ?_
  rintro e w2 ⟨v2, rfl, h1, hb⟩
  have R2 := Aside0.mk (Row.new (w := w) h1 HB.out.size)
  replace R1 := Aside0.mk (R1.out.step hb)
  replace HB := Aside0.mk (below_step HB.out hb)
  clear h1 hb
  go_wp2_with fail
  refine (HPS.out w2).mono ?_
  rintro e w3 ⟨va, rfl, h1, hb⟩
  have RA := Aside0.mk (Row.new (w := w) h1 HB.out.size)
  replace R1 := Aside0.mk (R1.out.step hb)
  replace R2 := Aside0.mk (R2.out.step hb)
  have N3 := Aside0.mk hb.size
  replace HB := Aside0.mk (below_step HB.out hb)
  clear h1 hb
  go_wp2_with fail
  refine (HPO.out w3).mono ?_
  rintro e w4 ⟨vb, rfl, h1, hb⟩
  have RB := Aside0.mk (Row.new (w := w) h1 HB.out.size)
  replace R1 := Aside0.mk (R1.out.step hb)
  replace R2 := Aside0.mk (R2.out.step hb)
  replace RA := Aside0.mk (RA.out.step hb)
  have N4 := Aside0.mk hb.size
  replace HB := Aside0.mk (below_step HB.out hb)
  clear h1 hb
  go_wp2_with fail
  refine (HPS.out w4).mono ?_
  rintro e w5 ⟨vc, rfl, h1, hb⟩
  have RC := Aside0.mk (Row.new (w := w) h1 HB.out.size)
  replace R1 := Aside0.mk (R1.out.step hb)
  replace R2 := Aside0.mk (R2.out.step hb)
  replace RA := Aside0.mk (RA.out.step hb)
  replace RB := Aside0.mk (RB.out.step hb)
  have N5 := Aside0.mk hb.size
  replace HB := Aside0.mk (below_step HB.out hb)
  clear h1 hb
  obtain ⟨A1, c1, rfl, hc1, hC1⟩ := Kd.R_reads R1.out
  obtain ⟨A2, c2, rfl, hc2, hC2⟩ := Kd.R_reads R2.out
  obtain ⟨Aa, ca, rfl, hca, hCa⟩ := Kd.R_reads RA.out
  obtain ⟨Ab, cb, rfl, hcb, hCb⟩ := Kd.R_reads RB.out
  obtain ⟨Ac, cc, rfl, hcc, hCc⟩ := Kd.R_reads RC.out
  have TA : Aside0 (∀ W : World, Below w5.heap.size w5 W → Calls Try.prog 10 #[.slice Aa sl.length ca, .slice A1 sl.length c1] W fun e w' => e = .returned (.bool true) ∧ Drawn0 W w') := ⟨fun W hb => portageref0_SameTexts.calls ks Aa ca sl A1 c1 sl true W (Kd.C_below hCa hb) hca (Kd.C_below hC1 hb) hc1 HKS.out⟩
  have TB : Aside0 (∀ W : World, Below w5.heap.size w5 W → Calls Try.prog 10 #[.slice Ab ol.length cb, .slice A2 ol.length c2] W fun e w' => e = .returned (.bool true) ∧ Drawn0 W w') := ⟨fun W hb => portageref0_SameTexts.calls ko Ab cb ol A2 c2 ol true W (Kd.C_below hCb hb) hcb (Kd.C_below hC2 hb) hc2 HKO.out⟩
  have TC : Aside0 (∀ W : World, Below w5.heap.size w5 W → Calls Try.prog 10 #[.slice Ac sl.length cc, .slice A1 sl.length c1] W fun e w' => e = .returned (.bool true) ∧ Drawn0 W w') := ⟨fun W hb => portageref0_SameTexts.calls ks Ac cc sl A1 c1 sl true W (Kd.C_below hCc hb) hcc (Kd.C_below hC1 hb) hc1 HKS.out⟩
  have HNo : Aside0 (∀ k, Own (vs3 (Aa, sl.length, ca) (Ab, ol.length, cb) (Ac, sl.length, cc)) 3 k → k < w5.heap.size) := ⟨fun k hk => by
    rcases own3 hk with h | h | h
    · exact Kd.R_lt RA.out k h
    · exact Kd.R_lt RB.out k h
    · exact Kd.R_lt RC.out k h⟩
  have TE : Aside0 (∀ W : World, Below w5.heap.size w5 W → Calls Try.prog 11 #[.slice (some ⟨W.heap.size, 0, none⟩) 3 3] (W.alloc (.cells #[.slice Aa sl.length ca, .slice Ab ol.length cb, .slice Ac sl.length cc] 22)) fun e w' => e = .returned (.bool true) ∧ Below w.heap.size w w') := ⟨fun W hb => by
    have hb2 := below_step hb (below_alloc (Below.refl W.heap.size W) (.cells #[.slice Aa sl.length ca, .slice Ab ol.length cb, .slice Ac sl.length cc] 22))
    have hG := given3 (w := w) (r0 := (Aa, sl.length, ca)) (r1 := (Ab, ol.length, cb)) (r2 := (Ac, sl.length, cc)) (RA.out.step hb2) (RB.out.step hb2) (RC.out.step hb2) (Nat.le_refl _) (Nat.le_refl _) N4.out (below_step HB.out hb2)
    refine (apartTexts_calls (some ⟨W.heap.size, 0, none⟩) 3 3 _ (fun j => (ls3 sl ol sl j).length) _ w _ hG (fun _ _ => rfl) (fun W' hk => outer_C (l := [(Aa, sl.length, ca), (Ab, ol.length, cb), (Ac, sl.length, cc)]) (blk_kept (blk_new _ _) hk (fun h => by have := HNo.out _ h; have := hb.size; omega)) (by simp)) (fun j hj => ?_) (by decide)).mono ?_
    · match j, hj with
      | 0, _ => simp only [ls3]; omega
      | 1, _ => simp only [ls3]; omega
      | 2, _ => simp only [ls3]; omega
    · rintro e w' ⟨h, hb, _⟩
      exact ⟨h, hb⟩⟩
  clear HRS HRO HPS HPO HKS HKO R1 R2 RA RB RC N3 N4 N5 hc1 hc2 hca hcb hcc hC1 hC2 hCa hCb hCc HNo HB
  go_wp2_with (first | (go_at_call 9; refine (num _ _).mono ?_; rintro e w1 ⟨rfl, ⟨⟨m, rfl⟩⟩⟩) | (go_at_call_of 10 (Value.slice Aa sl.length ca); refine (TA.out _ (pw_below_drewN (Below.refl _ _) _)).mono ?_; rintro e w1 ⟨rfl, ⟨⟨m, rfl⟩⟩⟩) | (go_at_call_of 10 (Value.slice Ab ol.length cb); refine (TB.out _ (pw_below_drewN (Below.refl _ _) _)).mono ?_; rintro e w1 ⟨rfl, ⟨⟨m, rfl⟩⟩⟩) | (go_at_call_of 10 (Value.slice Ac sl.length cc); refine (TC.out _ (pw_below_drewN (Below.refl _ _) _)).mono ?_; rintro e w1 ⟨rfl, ⟨⟨m, rfl⟩⟩⟩) | (go_at_call 11; refine (TE.out _ (pw_below_drewN (Below.refl _ _) _)).mono ?_; rintro e w1 ⟨rfl, hb⟩))
  go_ret
  exact ⟨rfl, hb⟩
end Go.Proofs.Ytcgajjaaiablkaa.DeskLaw
