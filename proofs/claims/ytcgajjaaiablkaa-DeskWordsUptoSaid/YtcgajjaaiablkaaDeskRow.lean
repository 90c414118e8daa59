/- DeskWords' row, where what it reads is of bulk at most 1048576: for every two lines. -/
import Derived.Test.YtcgajjaaiablkaaDeskLaw
import Derived.Test.YtcgajjaaiablkaaOpen
import Derived.Test.YtcgajjaaiablkaaRows
import Derived.Deep.CondSized
import Derived.ChangeMaps5
namespace Go.Proofs.Ytcgajjaaiablkaa.DeskRow
open Go.RowKit Go.WideShapes Go.ChangeShapes Go.ChangeAt
open Go.Proofs.Ytcgajjaaiablkaa.Open Go.ChangeMaps
set_option linter.unusedVariables false
set_option linter.unusedSimpArgs false

theorem own : ownKnob Try.prog.godebug = none := by kernel_rfl
theorem laidOut : laidOutB Try.prog = true := by kernel_rfl
theorem small2 {H : Type} {a b : List UInt8} (h : Rows.uptoSmall H [.lit (.string a), .lit (.string b)] = true) : a.length ≤ 1000000000000 ∧ b.length ≤ 1000000000000 := by
  have h2 := of_decide_eq_true h
  simp only [Rows.uptoBulkAll, Rows.uptoBulk] at h2
  omega

set_option maxRecDepth 100000 in
theorem lifted (os : Os) (started : os.Started) (H : Type) (enc : TypeId × Value → H) (F0 : Stop.Interp) :
    ReturnsInHanded {} Try.checked os 3 .any ((Rows.OpenSpec.upto Rows.deskWordsSpec).pre6 enc Try.prog Try.f3 Rows.deskWordsUptoRow.domain false) (((Rows.OpenSpec.upto Rows.deskWordsSpec).at F0).post enc Try.prog Try.f3 false true false false) := by
  refine returnsInHanded_of_cond_sized (C := Try.checked) (s := Rows.OpenSpec.upto Rows.deskWordsSpec) (k := Rows.uptoSmall) rfl own started (by kernel_rfl) Try.func3
    (OpenSpec.witness (enc := enc) (C := Try.checked) (s := Rows.OpenSpec.upto Rows.deskWordsSpec) (k := Rows.uptoSmall) rfl false ⟨#[], #[.string ⟨#[]⟩, .string ⟨#[]⟩], []⟩ 8 (by kernel_rfl) (by kernel_rfl) (by kernel_rfl)
      (x := ([.lit (.string []), .lit (.string [])], [], [])) (by kernel_rfl) (by kernel_rfl) (by kernel_rfl)) ?_
  intro W base args ds gs before hval0 hW _ hk hreach _
  have hval : ∀ (j : Nat) t v, Try.f3.params[j]? = some t → args[j]? = some v → Value.okWide Try.prog W .any base t v := hval0
  have hW' := hW
  obtain ⟨p, q, hA0, hV, rfl, hfz, hnd⟩ := hW
  have hA : DataW.TrodAll enc Try.prog W 0 (fun _ => true) true Try.f3.params.toList args.toList ds p := hA0
  rw [Try.params3] at hA hval
  obtain ⟨v0, v1, d0, d1, p0, p1, rfl, rfl, rfl, h0, h1⟩ := trodAll_two hA
  obtain ⟨rfl, rfl⟩ := trodVars_none hV
  simp only [List.append_nil] at hW'
  obtain ⟨s, rfl, rfl, rfl, _⟩ := open_string Try.underlying9 (hval 0 9 v0 rfl rfl) h0
  obtain ⟨o, rfl, rfl, rfl, _⟩ := open_string Try.underlying9 (hval 1 9 v1 rfl rfl) h1
  obtain ⟨hs, ho⟩ := small2 hk
  have zs : s.data.toList.length = s.size := by rw [Array.length_toList]; rfl
  have zo : o.data.toList.length = o.size := by rw [Array.length_toList]; rfl
  rw [zs] at hs
  rw [zo] at ho
  refine (DeskLaw.law s o W hs ho).mono fun e W' ⟨he, hb⟩ => ?_
  subst he
  exact ⟨_, rfl, law_post hW' rfl laidOut (by kernel_rfl) rfl Try.underlying4 rfl hb⟩

theorem proved : Rows.DeskWordsUptoSaid :=
  OpenClaim.holds_of_cond 3 Try.f3 rfl rfl rfl rfl rfl rfl rfl ⟨rfl, rfl, rfl, rfl, rfl⟩ rfl rfl rfl rfl rfl (by kernel_rfl) Try.func3 (by kernel_rfl)
    (of_decide_eq_true (by kernel_rfl)) (by unfold Func.isWrapper; first | (rw [if_pos (by decide +kernel)]; kernel_rfl) | (rw [if_neg (by decide +kernel)]; exact ⟨rfl, rfl⟩))
    (fun os started H enc _ F0 => lifted os started H enc F0)
#print axioms proved
end Go.Proofs.Ytcgajjaaiablkaa.DeskRow
namespace Go.Proofs.Ytcgajjaaiablkaa
/-- The row, under a short name. -/
theorem deskWordsUpto_holds : Rows.DeskWordsUptoSaid := DeskRow.proved
end Go.Proofs.Ytcgajjaaiablkaa
