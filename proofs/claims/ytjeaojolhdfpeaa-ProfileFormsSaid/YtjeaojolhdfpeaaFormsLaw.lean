/- ProfileForms, for all bytes: what is read back is the bytes' own form, else nothing is answered; and the examples hold. No condition. -/
import Derived.Test.YtjeaojolhdfpeaaFormsS
import Derived.Test.YtjeaojolhdfpeaaBackInv
namespace Go.Proofs.Ytjeaojolhdfpeaa.FormsLaw
open Go.RowKit Go.Proofs.YtjeaojolhdfpeaaW.PrintWords Go.Proofs.YtjeaojolhdfpeaaW.PrintLast Go.Proofs.YtjeaojolhdfpeaaW.PrintMore
open Go.Proofs.Ytjeaojolhdfpeaa.PProfileForms Go.Proofs.Ytjeaojolhdfpeaa.Reader Go.Proofs.Ytjeaojolhdfpeaa.Form Go.Proofs.Ytjeaojolhdfpeaa.BackPure
set_option linter.unusedVariables false
set_option linter.unusedSimpArgs false

theorem dec_none {bs : List Int} (h : (Decode.dec bs).1 ≠ 0) : (Decode.dec bs).2 = [] := by
  unfold Decode.dec at h ⊢
  split at h
  · rw [if_pos (by assumption)]
  · rename_i h1
    rw [if_neg h1]
    split at h
    · rw [if_pos (by assumption)]
    · rename_i h2
      rw [if_neg h2]
      split at h
      · rw [if_pos (by assumption)]
      · rename_i h3
        rw [if_neg h3]
        split at h
        · rw [if_pos (by assumption)]
        · rename_i h4
          rw [if_neg h4]
          split at h
          · rw [if_pos (by assumption)]
          · exact absurd rfl h
theorem enc_good {l : List (List S28)} (h : GoodP l) : enc l = (form l, 0) := by
  have hm : many l = false := by
    unfold many
    rw [decide_eq_false (by have := h.1; omega), Bool.false_or, List.any_eq_false]
    intro x hx
    have := h.2.1 x hx
    simp
    omega
  have ho : okProf l = true := by
    unfold okProf
    rw [List.all_eq_true]
    intro x hx
    rw [List.all_eq_true]
    exact fun s hs => (h.2.2 x hx s hs).1
  unfold enc
  rw [hm, ho]
  rfl
theorem same_l0 (bs : List Int) (hl : bs.length ≤ 9223372036854775807) (d : Nat) : ∀ i : Nat, bs.length - i = d → Ev (fun k => portageref0_SameBytes.l0 k bs bs (i : Int)) true := by
  induction d with
  | zero =>
    intro i hi
    exact Ev.step (fun k => by simp only [portageref0_SameBytes.l0]; rw [if_neg (by omega)]) (Ev.now true)
  | succ d ih =>
    intro i hi
    have hw : wrap64 ((i : Int) + 1) = ((i + 1 : Nat) : Int) := by unfold wrap64; omega
    have hn := ih (i + 1) (by omega)
    rw [← hw] at hn
    refine Ev.step (fun k => ?_) hn
    simp only [portageref0_SameBytes.l0]
    rw [if_pos (by omega), if_pos (by omega), if_pos (by omega), if_pos trivial]
theorem same_self (bs : List Int) (hl : bs.length ≤ 9223372036854775807) : ∃ k, portageref0_SameBytes.f k bs bs = some true := by
  obtain ⟨k, hk⟩ := (same_l0 bs hl _ 0 rfl).rounds
  refine ⟨k, ?_⟩
  unfold portageref0_SameBytes.f
  rw [if_pos rfl]
  exact hk
set_option maxHeartbeats 16000000 in
set_option maxRecDepth 100000 in
theorem law (A : Option Addr) (c : Nat) (bs : List Int) (w : World) (hr : Kd.C (Kd.int .u8) w A bs.length bs) (hc : bs.length ≤ c) (hl : bs.length ≤ 140737488355328) (hb : Bytes bs) :
    Calls Try.prog 10 #[.slice A bs.length c] w fun e w' => e = .returned (.bool true) ∧ Below w.heap.size w w' := by
  obtain ⟨ks, hks⟩ := same_self bs (by omega)
  have hD0 := Decode.decode A c bs w hr hl hb
  have hD1 := @dec_none bs
  have hD2 := @BackInv.dec_inv bs hb
  generalize Decode.dec bs = D at hD0 hD1 hD2
  obtain ⟨n, l⟩ := D
  simp only at hD1 hD2
  have HR := Aside0.mk hr
  have HKS := Aside0.mk hks
  have HD := Aside0.mk hD0
  have H1 := Aside0.mk hD1
  have H2 := Aside0.mk hD2
  clear hr hks hD0 hD1 hD2 hb
  go_enter Try.func10, Try.ntmps10
  go_wp2_with fail
  refine HD.out.mono ?_
  rintro e w1 ⟨v1, rfl, hr1, hb1⟩
  obtain ⟨A1, c1, rfl⟩ := Kd.R_slice hr1
  have HV := Aside0.mk (Kd.R_alloc hr1 (.cells #[.slice A1 l.length c1] 24))
  have B1 : Aside0 ((w1.alloc (.cells #[.slice A1 l.length c1] 24)).heap[w1.heap.size]? = some (.cells #[.slice A1 l.length c1] 24 (0, 0))) := ⟨blk_new _ _⟩
  have HB := Aside0.mk (below_alloc hb1 (.cells #[.slice A1 l.length c1] 24))
  simp only at HV B1 HB ⊢
  clear hr1 hb1 HD
  by_cases hn : n = 0
  · subst hn
    obtain ⟨hg, hf⟩ := H2.out rfl
    have he := enc_good hg
    rw [← hf] at he
    have HG := Aside0.mk (fun x hx s hs => (hg.2.2 x hx s hs).2)
    have HE := Aside0.mk he
    clear H1 H2 he hg hf
    go_upto_region 4 with fail
    generalize w1.alloc (.cells #[.slice A1 l.length c1] 24) = W1 at HV B1 HB ⊢
    have hc1 : W1.cell? ⟨w1.heap.size, 0, none⟩ = some (.slice A1 l.length c1) := (blk_cell B1.out 0).trans rfl
    go_wp2_with fail
    have he := Enc.encode A1 c1 l W1 (Kd.R_reads' HV.out).2.2 HG.out
    unfold Enc.Encoded at he
    rw [HE.out] at he
    refine he.mono ?_
    rintro e w2 ⟨v2, rfl, hr2, hb2⟩
    obtain ⟨A2, c2, rfl⟩ := Kd.R_slice hr2
    have HV2 := Aside0.mk hr2
    have HR2 := Aside0.mk (Kd.C_below HR.out (below_step HB.out hb2))
    replace HB := Aside0.mk (below_step HB.out hb2)
    clear he hr2 hb2 HE HG B1 HV hc1
    simp only at HV2 ⊢
    go_wp2_with fail
    refine (portageref0_SameBytes.calls ks A2 c2 bs A c bs true w2 (Kd.R_reads' HV2.out).2.2 (Kd.R_reads' HV2.out).2.1 HR2.out hc HKS.out).mono ?_
    rintro e w3 ⟨rfl, hd3⟩
    have HB3 := Aside0.mk (below_step HB.out hd3.below)
    clear hd3
    go_wp2_with fail
    go_ret
    exact ⟨rfl, HB3.out⟩
  · obtain rfl := H1.out hn
    simp only [List.length_nil] at HV B1 HB ⊢
    clear H1 H2
    go_upto_region 3 with fail
    generalize w1.alloc (.cells #[.slice A1 0 c1] 24) = W1 at HV B1 HB ⊢
    have hc1 : W1.cell? ⟨w1.heap.size, 0, none⟩ = some (.slice A1 0 c1) := (blk_cell B1.out 0).trans rfl
    go_wp2_with fail
    refine (FormsS.shown_calls W1).mono ?_
    rintro e w2 ⟨rfl, hb2⟩
    have HB2 := Aside0.mk (below_step HB.out hb2)
    clear hb2
    go_wp2_with fail
    go_ret
    exact ⟨rfl, HB2.out⟩
end Go.Proofs.Ytjeaojolhdfpeaa.FormsLaw
