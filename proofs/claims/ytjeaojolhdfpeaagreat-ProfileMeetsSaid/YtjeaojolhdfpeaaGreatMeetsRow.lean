/- ProfileMeets' row: for every three profiles. No condition. -/
import Derived.Test.YtjeaojolhdfpeaaGreatMeetsLaw
import Derived.Test.YtjeaojolhdfpeaaGreatTypesZ
import Derived.Test.YtjeaojolhdfpeaaGreatRows
namespace Go.Proofs.YtjeaojolhdfpeaaGreat.MeetsRow
open Go.RowKit Go.WideShapes Go.ChangeShapes Go.ChangeAt
open Go.Proofs.YtjeaojolhdfpeaaGreatW.PrintWords Go.Proofs.YtjeaojolhdfpeaaGreat.Open Go.Proofs.YtjeaojolhdfpeaaGreat.TypesZ Go.Proofs.YtjeaojolhdfpeaaGreat.MeetsLaw
set_option linter.unusedVariables false
set_option linter.unusedSimpArgs false

theorem trodAll_three2 {H : Type} {enc : TypeId × Value → H} {P : Program} {w : World} {base : Nat} {spare : Nat → Bool} {held : Bool} {t0 t1 t2 : TypeId} {args : Array Value} {ds : List (DataW H)} {ps : List MemPlace} (h : DataW.TrodAll enc P w base spare held [t0, t1, t2] args.toList ds ps) :
    ∃ v0 v1 v2 d0 d1 d2 p0 p1 p2, args = #[v0, v1, v2] ∧ ds = [d0, d1, d2] ∧ ps = p0 ++ (p1 ++ p2) ∧ DataW.Trod enc P w base spare held t0 v0 d0 p0 ∧ DataW.Trod enc P w base spare held t1 v1 d1 p1 ∧ DataW.Trod enc P w base spare held t2 v2 d2 p2 := by
  obtain ⟨v0, vs0, d0, ds0, p0, q0, a0, rfl, rfl, h0, r0⟩ := trodAll_cons h
  obtain ⟨v1, vs1, d1, ds1, p1, q1, rfl, rfl, rfl, h1, r1⟩ := trodAll_cons r0
  obtain ⟨v2, vs2, d2, ds2, p2, q2, rfl, rfl, rfl, h2, r2⟩ := trodAll_cons r1
  obtain ⟨rfl, rfl, rfl⟩ := trodAll_nil r2
  exact ⟨v0, v1, v2, d0, d1, d2, p0, p1, p2, by cases args; simp_all, rfl, by simp, h0, h1, h2⟩
theorem rd_of {W : World} {A : Option Addr} {c : Nat} {l : List (List Go.Proofs.YtjeaojolhdfpeaaGreat.PProfileMeets.S51)} (h : Kd.C (Kd.slice 51 Go.Proofs.YtjeaojolhdfpeaaGreat.PProfileMeets.k51) W A l.length l) (hc : l.length ≤ c) (hI : ProfIn l) : Rd W A c l :=
  ⟨h, hc, fun x hx s hs => (hI.2 x hx).2 s hs, by have := hI.1; unfold Sz; omega, fun x hx => by have := (hI.2 x hx).1; unfold Sz; omega⟩

set_option maxRecDepth 100000 in
theorem lifted (os : Os) (started : os.Started) (H : Type) (enc : TypeId × Value → H) :
    ReturnsInHanded {} Tryz.checked os 4 .any (Rows.profileMeetsSpec.pre6 enc Tryz.prog Tryz.f4 Rows.profileMeetsRow.domain false) (Rows.profileMeetsSpec.post enc Tryz.prog Tryz.f4 false true false false) := by
  refine returnsInHanded_of_change_sized (C := Tryz.checked) own started (by kernel_rfl) Tryz.func4
    (ChangeSpec.witness6 (enc := enc) (C := Tryz.checked) false ⟨#[], #[.agg #[.slice none 0 0], .agg #[.slice none 0 0], .agg #[.slice none 0 0]], []⟩ 8 (by kernel_rfl) (by kernel_rfl) (by kernel_rfl) (by kernel_rfl)) ?_
  intro W base args ds gs before hval0 hW hcnd hsz0 _
  have hW' := hW
  have hval : ∀ (j : Nat) t v, Tryz.f4.params[j]? = some t → args[j]? = some v → Value.okWide Tryz.prog W .any base t v := hval0
  have hsz : (DataW.weightsEach Tryz.prog (Tryz.f4.params.toList ++ Rows.profileMeetsSpec.plain.varTypes Tryz.prog) (ds ++ gs)).all (· ≤ reachBytes) = true := hsz0
  obtain ⟨p, q, hA0, hV, rfl, hfz, hnd⟩ := hW
  have hA : DataW.TrodAll enc Tryz.prog W 0 (fun _ => true) true Tryz.f4.params.toList args.toList ds p := hA0
  rw [Tryz.params4] at hA hval hsz
  obtain ⟨v0, v1, v2, d0, d1, d2, p0, p1, p2, rfl, rfl, rfl, h0, h1, h2⟩ := trodAll_three2 hA
  obtain ⟨rfl, rfl⟩ := trodVars_none hV
  obtain ⟨A, ca, a, rfl, hla, hra, hGa⟩ := open_prof (hval 0 25 v0 rfl rfl) h0 (fun n hn => by simpa using List.all_eq_true.1 hsz n (weights_each (i := 0) (t := 25) (y := d0) rfl rfl hn))
  obtain ⟨B, cb, b, rfl, hlb, hrb, hGb⟩ := open_prof (hval 1 25 v1 rfl rfl) h1 (fun n hn => by simpa using List.all_eq_true.1 hsz n (weights_each (i := 1) (t := 25) (y := d1) rfl rfl hn))
  obtain ⟨C, cc, c, rfl, hlc, hrc, hGc⟩ := open_prof (hval 2 25 v2 rfl rfl) h2 (fun n hn => by simpa using List.all_eq_true.1 hsz n (weights_each (i := 2) (t := 25) (y := d2) rfl rfl hn))
  refine (MeetsLaw.law A B C ca cb cc a b c W (rd_of hra hla hGa) (rd_of hrb hlb hGb) (rd_of hrc hlc hGc)).mono fun e W' ⟨he, hb⟩ => ?_
  subst he
  exact ⟨_, rfl, law_post hW' rfl laidOut (by kernel_rfl) rfl Tryz.underlying4 rfl hb⟩

theorem proved : Rows.ProfileMeetsSaid :=
  OpenClaim.holds_of_wide 4 Tryz.f4 rfl rfl rfl rfl rfl rfl rfl ⟨rfl, rfl, rfl, rfl, rfl⟩ rfl rfl rfl rfl rfl (by kernel_rfl) Tryz.func4 (by kernel_rfl)
    (of_decide_eq_true (by kernel_rfl)) (by unfold Func.isWrapper; first | (rw [if_pos (by decide +kernel)]; kernel_rfl) | (rw [if_neg (by decide +kernel)]; exact ⟨rfl, rfl⟩))
    (fun os started H enc _ => lifted os started H enc)
#print axioms proved
end Go.Proofs.YtjeaojolhdfpeaaGreat.MeetsRow
namespace Go.Proofs.YtjeaojolhdfpeaaGreat
/-- The row, under a short name. -/
theorem profileMeets_holds : Rows.ProfileMeetsSaid := MeetsRow.proved
end Go.Proofs.YtjeaojolhdfpeaaGreat
