/- RelaySealed: bytes behind a right mark, sum and digest are opened as the document does. -/
import Derived.Test.YtcgajjaaiablkaaROpened
import Derived.Test.YtcgajjaaiablkaaRSealed
namespace Go.Proofs.Ytcgajjaaiablkaa.RLaw
open Go.RowKit Go.Proofs.YtcgajjaaiablkaaW.PrintWords Go.Proofs.YtcgajjaaiablkaaW.PrintLast Go.Proofs.YtcgajjaaiablkaaW.PrintMore
open Go.Proofs.Ytcgajjaaiablkaa.PRelaySealed Go.Proofs.Ytcgajjaaiablkaa.Reader Go.Proofs.Ytcgajjaaiablkaa.RHd Go.Proofs.Ytcgajjaaiablkaa.RSealed Go.Proofs.Ytcgajjaaiablkaa.ROpened
set_option linter.unusedVariables false
set_option linter.unusedSimpArgs false

set_option maxHeartbeats 8000000 in
set_option maxRecDepth 100000 in
theorem law (A : Option Addr) (c : Nat) (b : List Int) (w : World) (hC : Kd.C (Kd.int .u8) w A b.length b) (hc : b.length ≤ c) (hl : b.length ≤ 140737488355188) (hb : Bytes b) :
    Calls Try.prog 5 #[.slice A b.length c] w fun e w' => e = .returned (.bool true) ∧ Below w.heap.size w w' := by
  have HS := Aside0.mk (sealed_ A c b w hC hc hl)
  have hsl := seal_length b
  have HO := Aside0.mk (fun A c W (h1 : Kd.C (Kd.int .u8) W A (seal_ b).length (seal_ b)) (h2 : (seal_ b).length ≤ c) => opened_ A c (seal_ b) W h1 h2 (by omega) (seal_bytes b hb))
  clear hsl hC
  generalize seal_ b = s at HS HO
  go_enter Try.func5, Try.ntmps5
  go_wp2_with (first
    | (go_at_call 18; refine HS.out.mono ?_; rintro e w1 ⟨v1, rfl, hR, hb1⟩; obtain ⟨A1, c1, rfl⟩ := Kd.R_slice hR; have HC1 := Aside0.mk (Kd.R_reads' hR).2; have HB1 := Aside0.mk hb1; clear hR hb1)
    | (go_at_call 13; refine (HO.out A1 c1 w1 HC1.out.2 HC1.out.1).mono ?_; rintro e w2 ⟨v2, v3, rfl, hR2, hR3, hb2⟩; have HB2 := Aside0.mk (below_then HB1.out HB1.out.size hb2); clear hR2 hR3 hb2))
  go_ret
  exact ⟨rfl, HB2.out⟩
end Go.Proofs.Ytcgajjaaiablkaa.RLaw
