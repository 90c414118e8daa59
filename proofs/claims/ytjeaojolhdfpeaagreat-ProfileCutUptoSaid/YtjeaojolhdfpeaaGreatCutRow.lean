/- ProfileCut's row, where what it reads is of bulk at most 1048576: for every program, every profile and every row of notes. -/
import Derived.Test.YtjeaojolhdfpeaaGreatCutLaw
import Derived.Test.YtjeaojolhdfpeaaGreatCutBulk
import Derived.Deep.CondSized
import Derived.ChangeMaps5
namespace Go.Proofs.YtjeaojolhdfpeaaGreat.CutRow
open Go.RowKit Go.WideShapes Go.ChangeShapes Go.ChangeAt
open Go.Proofs.YtjeaojolhdfpeaaGreatW.PrintWords Go.Proofs.YtjeaojolhdfpeaaGreat.Open Go.ChangeMaps Go.Proofs.YtjeaojolhdfpeaaGreat.Bulk Go.Proofs.YtjeaojolhdfpeaaGreat.TypesZ Go.Proofs.YtjeaojolhdfpeaaGreat.CutBulk
set_option linter.unusedVariables false
set_option linter.unusedSimpArgs false

set_option maxRecDepth 100000 in
theorem lifted (os : Os) (started : os.Started) (H : Type) (enc : TypeId × Value → H) (F0 : Stop.Interp) :
    ReturnsInHanded {} Tryz.checked os 5 .any ((Rows.OpenSpec.upto Rows.profileCutSpec).pre6 enc Tryz.prog Tryz.f5 Rows.profileCutUptoRow.domain false) (((Rows.OpenSpec.upto Rows.profileCutSpec).at F0).post enc Tryz.prog Tryz.f5 false true false false) := by
  refine returnsInHanded_of_cond_sized (C := Tryz.checked) (s := Rows.OpenSpec.upto Rows.profileCutSpec) (k := Rows.uptoSmall) rfl own started (by kernel_rfl) Tryz.func5
    (OpenSpec.witness (enc := enc) (C := Tryz.checked) (s := Rows.OpenSpec.upto Rows.profileCutSpec) (k := Rows.uptoSmall) rfl false ⟨#[], #[.agg #[.slice none 0 0, .slice none 0 0], .agg #[.slice none 0 0], .slice none 0 0], []⟩ 8 (by kernel_rfl) (by kernel_rfl) (by kernel_rfl)
      (x := ([.agg [.nil, .nil], .agg [.nil], .nil], [], [])) (by kernel_rfl) (by kernel_rfl) (by kernel_rfl)) ?_
  intro W base args ds gs before hval0 hW _ hk hreach _
  have hval : ∀ (j : Nat) t v, Tryz.f5.params[j]? = some t → args[j]? = some v → Value.okWide Tryz.prog W .any base t v := hval0
  have hsz := hreach
  have hW' := hW
  obtain ⟨p, q, hA0, hV, rfl, hfz, hnd⟩ := hW
  have hA : DataW.TrodAll enc Tryz.prog W 0 (fun _ => true) true Tryz.f5.params.toList args.toList ds p := hA0
  rw [Tryz.params5] at hA hval hsz
  obtain ⟨v0, v1, v2, d0, d1, d2, p0, p1, p2, rfl, rfl, rfl, h0, h1, h2⟩ := trodAll_three2 hA
  obtain ⟨rfl, rfl⟩ := trodVars_none hV
  simp only [List.append_nil] at hW'
  obtain ⟨s0, s1, s2⟩ := small3 hk
  obtain ⟨A0, A1, c0, c1, gp, fp, rfl, e0, e1, hp0, hp1, hB0⟩ := borne_prog (hval 0 33 v0 rfl rfl) h0
  obtain ⟨A2, c2, l, rfl, e2, hl, hG⟩ := open_prof (hval 1 25 v1 rfl rfl) h1 (fun n hn => by simpa using List.all_eq_true.1 hsz n (weights_each (i := 1) (t := 25) (y := d1) rfl rfl hn))
  obtain ⟨A3, c3, ns, rfl, e3, hn, hBn⟩ := borne_notes (hval 2 34 v2 rfl rfl) h2
  have hna : ∀ x ∈ ns, x.args.length < 4398046511104 := fun x hx => by
    have h5 : nNt x ≤ (ns.map nNt).sum := mem_sum hx
    have h6 : nNt x = x.args.length + 1 := rfl
    omega
  refine (CutLaw.law A0 A1 A2 A3 gp.length c0 c1 c2 c3 fp l ns W hp1 hl hn e1 e2 e3 (by have := len_fs fp; omega) (by have := tot_fs fp; omega) (fun x hx s hs => (hG.2 x hx).2 s hs) (by have := len_sum (m := nNt) (fun x => by unfold nNt; omega) ns; omega) hna).mono fun e W' ⟨he, hb⟩ => ?_
  subst he
  exact ⟨_, rfl, law_post hW' rfl laidOut (by kernel_rfl) rfl Tryz.underlying4 rfl hb⟩

theorem proved : Rows.ProfileCutUptoSaid :=
  OpenClaim.holds_of_cond 5 Tryz.f5 rfl rfl rfl rfl rfl rfl rfl ⟨rfl, rfl, rfl, rfl, rfl⟩ rfl rfl rfl rfl rfl (by kernel_rfl) Tryz.func5 (by kernel_rfl)
    (of_decide_eq_true (by kernel_rfl)) (by unfold Func.isWrapper; first | (rw [if_pos (by decide +kernel)]; kernel_rfl) | (rw [if_neg (by decide +kernel)]; exact ⟨rfl, rfl⟩))
    (fun os started H enc _ F0 => lifted os started H enc F0)
#print axioms proved
end Go.Proofs.YtjeaojolhdfpeaaGreat.CutRow
namespace Go.Proofs.YtjeaojolhdfpeaaGreat
/-- The row, under a short name. -/
theorem profileCutUpto_holds : Rows.ProfileCutUptoSaid := CutRow.proved
end Go.Proofs.YtjeaojolhdfpeaaGreat
