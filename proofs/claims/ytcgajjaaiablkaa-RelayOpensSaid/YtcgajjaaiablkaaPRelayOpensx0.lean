/- Relay's law: opened: the program opens bytes as the document does. -/
-- printed by print.sh 35421559b90ae4d0a3588c463048766b98c2df88dd9212a6774a882060cdf62d, cut by a program to what the claim asks for
import Derived.Test.YtcgajjaaiablkaaRefOpen
import Derived.Test.YtcgajjaaiablkaaProg
import Derived.Below
import Derived.Deep.Draws
import Derived.Deep.AppendLies
import Derived.Maps.AppendAt
import Derived.OwnWalk
import Derived.Laws.BytesArg
import Derived.Laws.MakeOwn
import Derived.Laws.OwnMore
import Derived.Deep.OwnRows
import Derived.Tactics
import Derived.Lib.ConvBytes
import Derived.Laws.Slices
import Derived.WalkKit
import Derived.KernelRfl
import Derived.RowKit3
import Derived.Deep.LoopGhost
import Derived.Deep.QuietTactic
import Derived.BigQuiet
import Derived.WideLaws
import Derived.Deep.DeepCutAuto
import Derived.Deep.CutBlock
import Derived.Deep.RegionHeld3
import Derived.Laws.Rows
import Derived.Lib.AppendStr
import Derived.ArgAppend
import Derived.Laws.IdiomCopy
import Derived.OrdersHeld
import Derived.Laws.BitsLemmas
import Derived.RowKit
import Derived.Test.YtcgajjaaiablkaaWWords
import Derived.Test.YtcgajjaaiablkaaWLast
import Derived.Test.YtcgajjaaiablkaaWTab
import Derived.Test.YtcgajjaaiablkaaWKept
import Derived.Test.YtcgajjaaiablkaaWN
import Derived.Laws.StructEq
import Derived.Test.YtcgajjaaiablkaaWInv
import Derived.Test.YtcgajjaaiablkaaPRelaySealedx0
namespace Go.Proofs.Ytcgajjaaiablkaa.ROpened
open Go.RowKit Go.Proofs.YtcgajjaaiablkaaW.PrintWords Go.Proofs.YtcgajjaaiablkaaW.PrintLast Go.Proofs.YtcgajjaaiablkaaW.PrintMore
open Go.Proofs.Ytcgajjaaiablkaa.PRelaySealed Go.Proofs.Ytcgajjaaiablkaa.Reader Go.Proofs.Ytcgajjaaiablkaa.RefRd Go.Proofs.Ytcgajjaaiablkaa.RHd Go.Proofs.Ytcgajjaaiablkaa.ROpen
set_option linter.unusedVariables false
set_option linter.unusedSimpArgs false

/-- What opened answers: new rows, and that all is as it should be. -/
def OpenedB (w : World) (r : List Int × List ByteArray × Int) (e : Ending) (w' : World) : Prop := ∃ vi vo, e = .returned (.tuple #[vi, vo, .bool true]) ∧ Kd.R (Kd.int .u8) 5 w' w.heap.size (fun _ => True) vi r.1 ∧ Kd.R Kd.string 9 w' w.heap.size (fun _ => True) vo r.2.1 ∧ Below w.heap.size w w'
set_option maxHeartbeats 8000000 in
set_option maxRecDepth 100000 in
theorem opened_ (A : Option Addr) (c : Nat) (b : List Int) (w : World) (hC : Kd.C (Kd.int .u8) w A b.length b) (hc : b.length ≤ c) (hl : b.length ≤ 140737488355232) (hb : Bytes b) :
    Calls Try.prog 13 #[.slice A b.length c] w (OpenedB w (opn b)) := by
  have HCP := Aside0.mk (portageref0_CopyBytes.calls (b.length + 1) A c b b w hC hc (copy_f b (by omega)))
  have HC := Aside0.mk (fun W (h : Below w.heap.size w W) => Kd.C_below hC h)
  have HOP := Aside0.mk (fun A c W (h1 : Kd.C (Kd.int .u8) W A b.length b) (h2 : b.length ≤ c) => open_ A c b W h1 h2 hl hb)
  have HRO := Aside0.mk (fun A c W (h1 : Kd.C (Kd.int .u8) W A b.length b) (h2 : b.length ≤ c) => RefOpen.ropen_ A c b W h1 h2 hl hb)
  have HCC := Aside0.mk hc
  have hlen := opn_len b hb
  obtain ⟨R, hR⟩ : ∃ R, R = opn b := ⟨_, rfl⟩
  rw [← hR] at HOP HRO hlen ⊢
  clear hR hC hc hb
  have HSB := Aside0.mk (same_f R.1 (by omega))
  have HST := Aside0.mk (sameT_f R.2.1 (by omega))
  have HSI := Aside0.mk (same_f b (by omega))
  have HNU := Aside0.mk (show portagekit_Num.f R.2.2 = some R.2.2 from rfl)
  go_enter Try.func13, Try.ntmps13
  go_upto_region 2 with (go_at_call 29; refine HCP.out.mono ?_; rintro e w1 ⟨v1, rfl, hR1, hb1⟩; obtain ⟨A1, c1, rfl⟩ := Kd.R_slice hR1; have HR1 := Aside0.mk hR1; have HB1 := Aside0.mk hb1; clear hR1 hb1)
  have HC1 := Aside0.mk (Kd.R_reads' HR1.out).2
  go_upto_region 3 with (go_at_call 30; refine (HRO.out A1 c1 w1 HC1.out.2 HC1.out.1).mono ?_; rintro e w2 ⟨v2, v3, rfl, hR2, hR3, hb2⟩; obtain ⟨A2, c2, rfl⟩ := Kd.R_slice hR2; obtain ⟨A3, c3, rfl⟩ := Kd.R_slice hR3; have HR2 := Aside0.mk hR2; have HR3 := Aside0.mk hR3; have HB2 := Aside0.mk hb2; clear hR2 hR3 hb2)
  go_upto_region 4 with (go_at_call 20; refine (HOP.out A c w2 (HC.out w2 (below_then HB1.out HB1.out.size HB2.out)) HCC.out).mono ?_; rintro e w3 ⟨v4, v5, rfl, hR4, hR5, hb3⟩; obtain ⟨A4, c4, rfl⟩ := Kd.R_slice hR4; obtain ⟨A5, c5, rfl⟩ := Kd.R_slice hR5; have HR4 := Aside0.mk hR4; have HR5 := Aside0.mk hR5; have HB3 := Aside0.mk hb3; clear hR4 hR5 hb3)
  have HB := Aside0.mk (below_then (below_then HB1.out HB1.out.size HB2.out) (below_then HB1.out HB1.out.size HB2.out).size HB3.out)
  have H1 := Aside0.mk (Kd.C_below (Kd.C_below HC1.out.2 HB2.out) HB3.out)
  have H2 := Aside0.mk (Kd.R_reads' (Kd.R_below HR2.out HB3.out)).2
  have H3 := Aside0.mk (Kd.R_reads' (Kd.R_below HR3.out HB3.out)).2
  have H4 := Aside0.mk (Kd.R_reads' HR4.out).2
  have H5 := Aside0.mk (Kd.R_reads' HR5.out).2
  have H0 := Aside0.mk (HC.out w3 HB.out)
  go_upto_region 6 with (first
    | (go_at_call 9; refine (portagekit_Num.calls _ _ _ HNU.out).mono ?_; rintro e w4 ⟨rfl, ⟨⟨m4, rfl⟩⟩⟩)
    | (go_at_call 16; refine (portageref0_SameBytes.calls _ A4 c4 R.1 A2 c2 R.1 true _ (Kd.C_drewN H4.out.2 m4) H4.out.1 (Kd.C_drewN H2.out.2 m4) H2.out.1 HSB.out).mono ?_; rintro e w5 ⟨rfl, ⟨⟨m5, rfl⟩⟩⟩)
    | (go_at_call 10; refine (portageref0_SameTexts.calls _ A5 c5 R.2.1 A3 c3 R.2.1 true _ (Kd.C_drewN H5.out.2 _) H5.out.1 (Kd.C_drewN H3.out.2 _) H3.out.1 HST.out).mono ?_; rintro e w6 ⟨rfl, ⟨⟨m6, rfl⟩⟩⟩))
  go_wp2_with (go_at_call 16; refine (portageref0_SameBytes.calls _ A c b A1 c1 b true _ (Kd.C_drewN H0.out _) HCC.out (Kd.C_drewN H1.out _) HC1.out.1 HSI.out).mono ?_; rintro e w7 ⟨rfl, ⟨⟨m7, rfl⟩⟩⟩)
  go_ret3
  exact ⟨_, _, rfl, int_down (Kd.R_drewN HR4.out _) (below_then HB1.out HB1.out.size HB2.out).size, str_down (Kd.R_drewN HR5.out _) (below_then HB1.out HB1.out.size HB2.out).size, pw_below_drewN HB.out _⟩
end Go.Proofs.Ytcgajjaaiablkaa.ROpened

namespace Go.Proofs.Ytcgajjaaiablkaa.PRelayOpens
open Go.RowKit Go.Proofs.YtcgajjaaiablkaaW.PrintWords Go.Proofs.YtcgajjaaiablkaaW.PrintLast Go.Proofs.YtcgajjaaiablkaaW.PrintMore
attribute [local go_sem] max2_int min2_int max_two min_two max_three min_three max_four min_four   -- for this text's walks alone
set_option linter.unusedVariables false
set_option linter.unusedSimpArgs false



def errW : Option Int → Value
  | none => .nilIface
  | some c => .iface 0 (.int .i64 c)
theorem errW_none : errW none = .nilIface := rfl
theorem errW_some (c : Int) : errW (some c) = .iface 0 (.int .i64 c) := rfl

theorem info5 : (Try.prog.info? 5).map (fun i => (i.zero, i.size, i.bytes)) = some (some (.int .u8 0), 1, 1) := by kernel_rfl
-- the values' own types
end Go.Proofs.Ytcgajjaaiablkaa.PRelayOpens
