/- ProfileHot's row: for every profile and every least. No condition. -/
import Derived.Test.YtjeaojolhdfpeaaHotLaw
import Derived.Test.YtjeaojolhdfpeaaTypesH
import Derived.Test.YtjeaojolhdfpeaaRows
namespace Go.Proofs.Ytjeaojolhdfpeaa.HotRow
open Go.RowKit Go.WideShapes Go.ChangeShapes Go.ChangeAt
open Go.Proofs.Ytjeaojolhdfpeaa.Open Go.Proofs.Ytjeaojolhdfpeaa.TypesH
set_option linter.unusedVariables false
set_option linter.unusedSimpArgs false

set_option maxRecDepth 100000 in
theorem lifted (os : Os) (started : os.Started) (H : Type) (enc : TypeId × Value → H) :
    ReturnsInHanded {} Try.checked os 7 .any (Rows.profileHotSpec.pre6 enc Try.prog Try.f7 Rows.profileHotRow.domain false) (Rows.profileHotSpec.post enc Try.prog Try.f7 false true false false) := by
  refine returnsInHanded_of_change_sized (C := Try.checked) own started (by kernel_rfl) Try.func7
    (ChangeSpec.witness6 (enc := enc) (C := Try.checked) false ⟨#[], #[.agg #[.slice none 0 0], .int .i64 0], []⟩ 8 (by kernel_rfl) (by kernel_rfl) (by kernel_rfl) (by kernel_rfl)) ?_
  intro W base args ds gs before hval0 hW hcnd hsz0 _
  have hW' := hW
  have hval : ∀ (j : Nat) t v, Try.f7.params[j]? = some t → args[j]? = some v → Value.okWide Try.prog W .any base t v := hval0
  have hsz : (DataW.weightsEach Try.prog (Try.f7.params.toList ++ Rows.profileHotSpec.plain.varTypes Try.prog) (ds ++ gs)).all (· ≤ reachBytes) = true := hsz0
  obtain ⟨p, q, hA0, hV, rfl, hfz, hnd⟩ := hW
  have hA : DataW.TrodAll enc Try.prog W 0 (fun _ => true) true Try.f7.params.toList args.toList ds p := hA0
  rw [Try.params7] at hA hval hsz
  obtain ⟨v0, v1, d0, d1, p0, p1, rfl, rfl, rfl, h0, h1⟩ := trodAll_two hA
  obtain ⟨rfl, rfl⟩ := trodVars_none hV
  obtain ⟨A, c, l, rfl, hl, hr, hG⟩ := open_prof (hval 0 24 v0 rfl rfl) h0 (fun n hn => by simpa using List.all_eq_true.1 hsz n (weights_each (i := 0) (t := 24) (y := d0) rfl rfl hn))
  obtain ⟨least, rfl, rfl, rfl, _⟩ := open_int Try.underlying2 (hval 1 2 v1 rfl rfl) h1
  refine (HotLaw.law A c l least W hr hl hG.1 (fun x hx => (hG.2 x hx).1) (fun x hx s hs => ((hG.2 x hx).2 s hs).1)).mono fun e W' ⟨he, hb⟩ => ?_
  subst he
  exact ⟨_, rfl, law_post hW' rfl laidOut (by kernel_rfl) rfl Try.underlying4 rfl hb⟩

theorem proved : Rows.ProfileHotSaid :=
  OpenClaim.holds_of_wide 7 Try.f7 rfl rfl rfl rfl rfl rfl rfl ⟨rfl, rfl, rfl, rfl, rfl⟩ rfl rfl rfl rfl rfl (by kernel_rfl) Try.func7 (by kernel_rfl)
    (of_decide_eq_true (by kernel_rfl)) (by unfold Func.isWrapper; first | (rw [if_pos (by decide +kernel)]; kernel_rfl) | (rw [if_neg (by decide +kernel)]; exact ⟨rfl, rfl⟩))
    (fun os started H enc _ => lifted os started H enc)
#print axioms proved
end Go.Proofs.Ytjeaojolhdfpeaa.HotRow
namespace Go.Proofs.Ytjeaojolhdfpeaa
/-- The row, under a short name. -/
theorem profileHot_holds : Rows.ProfileHotSaid := HotRow.proved
end Go.Proofs.Ytjeaojolhdfpeaa
