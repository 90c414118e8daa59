/- LiveRun's row, where what it reads is of bulk at most 1048576: for every two register codes. -/
import Derived.Test.YtklknkfoafdgpaaLiveRunLaw
import Derived.Test.YtklknkfoafdgpaaLiveBulk
import Derived.Test.YtklknkfoafdgpaaLiveKn
import Derived.Deep.CondSized
import Derived.ChangeMaps5
namespace Go.Proofs.Ytklknkfoafdgpaa.LiveRunRow
open Go.RowKit Go.WideShapes Go.ChangeShapes Go.ChangeAt
open Go.Proofs.Ytklknkfoafdgpaa.Open Go.ChangeMaps Go.Proofs.Ytklknkfoafdgpaa.LiveTypes Go.Proofs.Ytklknkfoafdgpaa.LiveBulk
set_option linter.unusedVariables false
set_option linter.unusedSimpArgs false

theorem trodAll_two2 {H : Type} {enc : TypeId × Value → H} {P : Program} {w : World} {base : Nat} {spare : Nat → Bool} {held : Bool} {t t' : TypeId} {args : Array Value} {ds : List (DataW H)} {ps : List MemPlace} (h : DataW.TrodAll enc P w base spare held [t, t'] args.toList ds ps) :
    ∃ v v' d d' p p', args = #[v, v'] ∧ ds = [d, d'] ∧ ps = p ++ p' ∧ DataW.Trod enc P w base spare held t v d p ∧ DataW.Trod enc P w base spare held t' v' d' p' := by
  obtain ⟨v, vs, d, ds', p, q, hargs, rfl, rfl, hd, hrest⟩ := trodAll_cons h
  obtain ⟨v', vs', d', ds'', p', q', rfl, rfl, rfl, hd', hrest'⟩ := trodAll_cons hrest
  obtain ⟨rfl, rfl, rfl⟩ := trodAll_nil hrest'
  exact ⟨v, v', d, d', p, p', by cases args; simp_all, rfl, by simp, hd, hd'⟩
theorem small2 {H : Type} {a b : DataW H} (h : Rows.uptoSmall H [a, b] = true) : Rows.uptoBulk a ≤ 1048576 ∧ Rows.uptoBulk b ≤ 1048576 := by
  have h2 := of_decide_eq_true h
  simp only [Rows.uptoBulkAll] at h2
  omega

set_option maxRecDepth 100000 in
theorem lifted (os : Os) (started : os.Started) (H : Type) (enc : TypeId × Value → H) (F0 : Stop.Interp) :
    ReturnsInHanded {} Try.checked os 4 .any ((Rows.OpenSpec.upto Rows.liveRunSpec).pre6 enc Try.prog Try.f4 Rows.liveRunUptoRow.domain false) (((Rows.OpenSpec.upto Rows.liveRunSpec).at F0).post enc Try.prog Try.f4 false true false false) := by
  refine returnsInHanded_of_cond_sized (C := Try.checked) (s := Rows.OpenSpec.upto Rows.liveRunSpec) (k := Rows.uptoSmall) rfl own started (by kernel_rfl) Try.func4
    (OpenSpec.witness (enc := enc) (C := Try.checked) (s := Rows.OpenSpec.upto Rows.liveRunSpec) (k := Rows.uptoSmall) rfl false ⟨#[], #[.agg #[.int .i64 0, .int .i64 0, .slice none 0 0], .agg #[.int .i64 0, .int .i64 0, .slice none 0 0]], []⟩ 8 (by kernel_rfl) (by kernel_rfl) (by kernel_rfl)
      (x := ([.agg [.lit (.int .i64 0), .lit (.int .i64 0), .nil], .agg [.lit (.int .i64 0), .lit (.int .i64 0), .nil]], [], [])) (by kernel_rfl) (by kernel_rfl) (by kernel_rfl)) ?_
  intro W base args ds gs before hval0 hW _ hk hreach _
  have hval : ∀ (j : Nat) t v, Try.f4.params[j]? = some t → args[j]? = some v → Value.okWide Try.prog W .any base t v := hval0
  have hW' := hW
  obtain ⟨p, q, hA0, hV, rfl, hfz, hnd⟩ := hW
  have hA : DataW.TrodAll enc Try.prog W 0 (fun _ => true) true Try.f4.params.toList args.toList ds p := hA0
  rw [Try.params4] at hA hval
  obtain ⟨v0, v1, d0, d1, p0, p1, rfl, rfl, rfl, h0, h1⟩ := trodAll_two2 hA
  obtain ⟨rfl, rfl⟩ := trodVars_none hV
  simp only [List.append_nil] at hW'
  obtain ⟨fn, rg, A, c, l, rfl, hl, hr, hB⟩ := borne_code (hval 0 24 v0 rfl rfl) h0
  obtain ⟨fo, ro, A', c', l', rfl, hl', hr', hB'⟩ := borne_code (hval 1 24 v1 rfl rfl) h1
  obtain ⟨hs, hs'⟩ := small2 hk
  have hT := tiny_of (Nat.le_trans hB hs)
  have hT' := tiny_of (Nat.le_trans hB' hs')
  obtain ⟨V, hV⟩ := LiveKn.lfp_exists (LiveSettled.codeOf l)
  refine (LiveRunLaw.run_law fn rg fo ro A A' c c' l l' V W hr hl (fitC_of hT (by decide)) (fitH_of hT (by decide)) hV hr' (fitC_of hT' (by decide))).mono fun e W' ⟨he, hb⟩ => ?_
  subst he
  exact ⟨_, rfl, law_post hW' rfl laidOut (by kernel_rfl) rfl Try.underlying4 rfl hb⟩

theorem proved : Rows.LiveRunUptoSaid :=
  OpenClaim.holds_of_cond 4 Try.f4 rfl rfl rfl rfl rfl rfl rfl ⟨rfl, rfl, rfl, rfl, rfl⟩ rfl rfl rfl rfl rfl (by kernel_rfl) Try.func4 (by kernel_rfl)
    (of_decide_eq_true (by kernel_rfl)) (by unfold Func.isWrapper; first | (rw [if_pos (by decide +kernel)]; kernel_rfl) | (rw [if_neg (by decide +kernel)]; exact ⟨rfl, rfl⟩))
    (fun os started H enc _ F0 => lifted os started H enc F0)
#print axioms proved
end Go.Proofs.Ytklknkfoafdgpaa.LiveRunRow
namespace Go.Proofs.Ytklknkfoafdgpaa
/-- The row, under a short name. -/
theorem liveRunUpto_holds : Rows.LiveRunUptoSaid := LiveRunRow.proved
end Go.Proofs.Ytklknkfoafdgpaa
