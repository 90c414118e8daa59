/- RelayOne's row: for all bytes. No condition. -/
import Derived.Test.YtcgajjaaiablkaaROneLaw
import Derived.Test.YtcgajjaaiablkaaOpen2
import Derived.Test.YtcgajjaaiablkaaRows
namespace Go.Proofs.Ytcgajjaaiablkaa.ROneRow
open Go.RowKit Go.WideShapes Go.ChangeShapes Go.ChangeAt
open Go.Proofs.YtcgajjaaiablkaaW.PrintWords Go.Proofs.Ytcgajjaaiablkaa.Open
set_option linter.unusedVariables false
set_option linter.unusedSimpArgs false

theorem own : ownKnob Try.prog.godebug = none := by kernel_rfl
theorem laidOut : laidOutB Try.prog = true := by kernel_rfl
theorem o33 : Opens Try.prog 33 (Kd.slice 5 (Kd.int .u8)) (fun xs => xs.length * 1 ≤ reachBytes ∧ ∀ x ∈ xs, 0 ≤ x ∧ x < 256) :=
  opens_slice (B := 1) Try.underlying33 ((opens_int Try.underlying5).imp fun _ h => in_u8 h) (by kernel_rfl) (by kernel_rfl) (by decide)
theorem reach_eq : reachBytes = 140737488351232 := by kernel_rfl

set_option maxRecDepth 100000 in
theorem lifted (os : Os) (started : os.Started) (H : Type) (enc : TypeId × Value → H) :
    ReturnsInHanded {} Try.checked os 6 .any (Rows.relayOneSpec.pre6 enc Try.prog Try.f6 Rows.relayOneRow.domain false) (Rows.relayOneSpec.post enc Try.prog Try.f6 false true false false) := by
  refine returnsInHanded_of_change_sized (C := Try.checked) own started (by kernel_rfl) Try.func6
    (ChangeSpec.witness6 (enc := enc) (C := Try.checked) false ⟨#[], #[.slice none 0 0], []⟩ 8 (by kernel_rfl) (by kernel_rfl) (by kernel_rfl) (by kernel_rfl)) ?_
  intro W base args ds gs before hval0 hW hcnd hsz0 _
  have hW' := hW
  have hval : ∀ (j : Nat) t v, Try.f6.params[j]? = some t → args[j]? = some v → Value.okWide Try.prog W .any base t v := hval0
  have hsz : (DataW.weightsEach Try.prog (Try.f6.params.toList ++ Rows.relayOneSpec.plain.varTypes Try.prog) (ds ++ gs)).all (· ≤ reachBytes) = true := hsz0
  obtain ⟨p, q, hA0, hV, rfl, hfz, hnd⟩ := hW
  have hA : DataW.TrodAll enc Try.prog W 0 (fun _ => true) true Try.f6.params.toList args.toList ds p := hA0
  rw [Try.params6] at hA hval hsz
  obtain ⟨v0, d0, rfl, rfl, h0⟩ := trodAll_one hA
  obtain ⟨rfl, rfl⟩ := trodVars_none hV
  simp only [List.append_nil] at hW'
  obtain ⟨A, c, bs, rfl, hl, hr, hG⟩ := open_row Try.underlying33 o33 (hval 0 33 v0 rfl rfl) h0 (fun n hn => by simpa using List.all_eq_true.1 hsz n (weights_each (i := 0) (t := 33) (y := d0) rfl rfl hn))
  rw [reach_eq] at hG
  refine (ROneLaw.law A c bs W hr hl (by omega) hG.2).mono fun e W' ⟨he, hb⟩ => ?_
  subst he
  exact ⟨_, rfl, law_post hW' rfl laidOut (by kernel_rfl) rfl Try.underlying4 rfl hb⟩

theorem proved : Rows.RelayOneSaid :=
  OpenClaim.holds_of_wide 6 Try.f6 rfl rfl rfl rfl rfl rfl rfl ⟨rfl, rfl, rfl, rfl, rfl⟩ rfl rfl rfl rfl rfl (by kernel_rfl) Try.func6 (by kernel_rfl)
    (of_decide_eq_true (by kernel_rfl)) (by unfold Func.isWrapper; first | (rw [if_pos (by decide +kernel)]; kernel_rfl) | (rw [if_neg (by decide +kernel)]; exact ⟨rfl, rfl⟩))
    (fun os started H enc _ => lifted os started H enc)
#print axioms proved
end Go.Proofs.Ytcgajjaaiablkaa.ROneRow
namespace Go.Proofs.Ytcgajjaaiablkaa
/-- The row, under a short name. -/
theorem relayOne_holds : Rows.RelayOneSaid := ROneRow.proved
end Go.Proofs.Ytcgajjaaiablkaa
