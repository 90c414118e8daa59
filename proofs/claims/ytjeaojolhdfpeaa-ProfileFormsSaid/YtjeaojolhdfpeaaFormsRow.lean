/- ProfileForms' row: for all bytes. No condition. -/
import Derived.Test.YtjeaojolhdfpeaaFormsLaw
import Derived.Test.YtjeaojolhdfpeaaOpen2
import Derived.Test.YtjeaojolhdfpeaaRows
namespace Go.Proofs.Ytjeaojolhdfpeaa.FormsRow
open Go.RowKit Go.WideShapes Go.ChangeShapes Go.ChangeAt
open Go.Proofs.YtjeaojolhdfpeaaW.PrintWords Go.Proofs.Ytjeaojolhdfpeaa.Open
set_option linter.unusedVariables false
set_option linter.unusedSimpArgs false

theorem own : ownKnob Try.prog.godebug = none := by kernel_rfl
theorem laidOut : laidOutB Try.prog = true := by kernel_rfl
theorem o32 : Opens Try.prog 32 (Kd.slice 5 (Kd.int .u8)) (fun xs => xs.length * 1 ≤ reachBytes ∧ ∀ x ∈ xs, 0 ≤ x ∧ x < 256) :=
  opens_slice (B := 1) Try.underlying32 ((opens_int Try.underlying5).imp fun _ h => in_u8 h) (by kernel_rfl) (by kernel_rfl) (by decide)
theorem reach_eq : reachBytes = 140737488351232 := by kernel_rfl

set_option maxRecDepth 100000 in
theorem lifted (os : Os) (started : os.Started) (H : Type) (enc : TypeId × Value → H) :
    ReturnsInHanded {} Try.checked os 10 .any (Rows.profileFormsSpec.pre6 enc Try.prog Try.f10 Rows.profileFormsRow.domain false) (Rows.profileFormsSpec.post enc Try.prog Try.f10 false true false false) := by
  refine returnsInHanded_of_change_sized (C := Try.checked) own started (by kernel_rfl) Try.func10
    (ChangeSpec.witness6 (enc := enc) (C := Try.checked) false ⟨#[], #[.slice none 0 0], []⟩ 8 (by kernel_rfl) (by kernel_rfl) (by kernel_rfl) (by kernel_rfl)) ?_
  intro W base args ds gs before hval0 hW hcnd hsz0 _
  have hW' := hW
  have hval : ∀ (j : Nat) t v, Try.f10.params[j]? = some t → args[j]? = some v → Value.okWide Try.prog W .any base t v := hval0
  have hsz : (DataW.weightsEach Try.prog (Try.f10.params.toList ++ Rows.profileFormsSpec.plain.varTypes Try.prog) (ds ++ gs)).all (· ≤ reachBytes) = true := hsz0
  obtain ⟨p, q, hA0, hV, rfl, hfz, hnd⟩ := hW
  have hA : DataW.TrodAll enc Try.prog W 0 (fun _ => true) true Try.f10.params.toList args.toList ds p := hA0
  rw [Try.params10] at hA hval hsz
  obtain ⟨v0, d0, rfl, rfl, h0⟩ := trodAll_one hA
  obtain ⟨rfl, rfl⟩ := trodVars_none hV
  obtain ⟨A, c, bs, rfl, hl, hr, hG⟩ := open_row Try.underlying32 o32 (hval 0 32 v0 rfl rfl) h0 (fun n hn => by simpa using List.all_eq_true.1 hsz n (weights_each (i := 0) (t := 32) (y := d0) rfl rfl hn))
  rw [reach_eq] at hG
  refine (FormsLaw.law A c bs W hr hl (by omega) hG.2).mono fun e W' ⟨he, hb⟩ => ?_
  subst he
  exact ⟨_, rfl, law_post hW' rfl laidOut (by kernel_rfl) rfl Try.underlying4 rfl hb⟩

theorem proved : Rows.ProfileFormsSaid :=
  OpenClaim.holds_of_wide 10 Try.f10 rfl rfl rfl rfl rfl rfl rfl ⟨rfl, rfl, rfl, rfl, rfl⟩ rfl rfl rfl rfl rfl (by kernel_rfl) Try.func10 (by kernel_rfl)
    (of_decide_eq_true (by kernel_rfl)) (by unfold Func.isWrapper; first | (rw [if_pos (by decide +kernel)]; kernel_rfl) | (rw [if_neg (by decide +kernel)]; exact ⟨rfl, rfl⟩))
    (fun os started H enc _ => lifted os started H enc)
#print axioms proved
end Go.Proofs.Ytjeaojolhdfpeaa.FormsRow
namespace Go.Proofs.Ytjeaojolhdfpeaa
/-- The row, under a short name. -/
theorem profileForms_holds : Rows.ProfileFormsSaid := FormsRow.proved
end Go.Proofs.Ytjeaojolhdfpeaa
