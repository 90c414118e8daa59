/- Two like instructions: the comparison says so. -/
import Derived.Test.YtklknkfoafdgpaaLiveEqS60
namespace Go.Proofs.Ytklknkfoafdgpaa.LiveEqI
open Go.RowKit Go.Proofs.YtklknkfoafdgpaaW.PrintWords Go.Proofs.YtklknkfoafdgpaaW.PrintLast Go.Proofs.YtklknkfoafdgpaaW.PrintMore
open Go.Proofs.Ytklknkfoafdgpaa.PLiveKnown Go.Proofs.Ytklknkfoafdgpaa.LiveT Go.Proofs.Ytklknkfoafdgpaa.LiveB Go.Proofs.Ytklknkfoafdgpaa.LiveSet Go.Proofs.Ytklknkfoafdgpaa.LiveAhead Go.Proofs.Ytklknkfoafdgpaa.LiveEqO Go.Proofs.Ytklknkfoafdgpaa.LiveEqS60
set_option linter.unusedVariables false
set_option linter.unusedSimpArgs false

set_option maxHeartbeats 8000000 in
set_option maxRecDepth 100000 in
theorem ins37_calls (x : S47) (A3 B3 A7 B7 : Option Addr) (c3 d3 c7 d7 : Nat) (w : World) (h : RIn w x A3 c3 A7 c7) (h1 : RIn w x B3 d3 B7 d7) :
    Calls Try.prog 37 #[v47 x A3 c3 A7 c7, v47 x B3 d3 B7 d7] w fun e w' => e = .returned (.bool true) ∧ Below w.heap.size w w' := by
  have H0 := Aside0.mk h
  have H1 := Aside0.mk h1
  clear h h1
  simp only [v47, cells47]
  go_enter Try.func37, Try.ntmps37
  go_wp2_with (first
    | ((with_reducible refine gate_dst (N := 2) rfl ?_); refine box47_event rfl rfl rfl rfl ?_; intro ga w1 hga hA1 hb1; have HA1 := Aside0.mk hA1; have HB1 := Aside0.mk hb1; clear hga hA1 hb1)
    | ((with_reducible refine gate_dst (N := 3) rfl ?_); refine box47_event rfl rfl rfl rfl ?_; intro gb w2 hgb hA2 hb2; have HB2 := Aside0.mk (below_step HB1.out hb2); have hA1b := at47_below HA1.out hb2; obtain ⟨u0, u1, u2, u3, u4, u5, u6, u7⟩ := cells47_of hA1b; obtain ⟨v0, v1, v2, v3, v4, v5, v6, v7⟩ := cells47_of hA2; clear hgb hA2 hb2 hA1b)
    | (go_at_call 59; refine (opnds59_calls x.f3 A3 B3 c3 d3 _ (Kd.C_below H0.out.r3 HB2.out) H0.out.l3 (Kd.C_below H1.out.r3 HB2.out) H1.out.l3).mono ?_; rintro e w3 ⟨rfl, hb3⟩; have HB3 := Aside0.mk (below_step HB2.out hb3); replace u7 := pw_cell_below hb3 u7; replace v7 := pw_cell_below hb3 v7; clear hb3 u0 u1 u2 u3 u4 u5 u6 v0 v1 v2 v3 v4 v5 v6)
    | (go_at_call 60; refine (shapes60_calls x.f7 A7 B7 c7 d7 _ (Kd.C_below H0.out.r7 HB3.out) (Kd.C_below H1.out.r7 HB3.out)).mono ?_; rintro e w4 ⟨rfl, hb4⟩; have HB4 := Aside0.mk (below_step HB3.out hb4); clear hb4 u7 v7))
  all_goals (
    go_ret
    exact ⟨rfl, HB4.out⟩)
end Go.Proofs.Ytklknkfoafdgpaa.LiveEqI
