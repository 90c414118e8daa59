import Derived.Test.YtklknkfoafdgpaaLiveMark
import Derived.Test.YtklknkfoafdgpaaLiveEqB
namespace Go.Proofs.Ytklknkfoafdgpaa.LiveKept
set_option maxHeartbeats 8000000
set_option maxRecDepth 100000
open RowKit YtklknkfoafdgpaaW.PrintWords YtklknkfoafdgpaaW.PrintLast YtklknkfoafdgpaaW.PrintMore
open PLiveKnown LiveT LiveB LiveInv LiveSet LiveAhead LiveEnd LiveSettled LiveCopied LiveAft LiveRunP LiveSame LiveFit LiveEvt LiveRefP LiveHandP LiveHandS LiveHandB LiveHandC LiveMark
set_option linter.unusedVariables false
set_option linter.unusedSimpArgs false
theorem blocks33_calls (bs:List S43) (hf:FitC bs) (A A1:Option Addr) (c c1:Nat) (w:World) (h:Kd.C k43 w A bs.length bs) (hc:bs.length≤c) (h1:Kd.C k43 w A1 bs.length bs) (hc1:bs.length≤c1) :
  Calls Try.prog 33 #[.slice A bs.length c,.slice A1 bs.length c1] w fun e w'=>e= .returned (.bool true)∧Below w.heap.size w w':=by
 exact LiveEqB.like33_calls bs A A1 c c1 w h h1
theorem HK.code {w0 W:World} {gh:Nat} {fn rg:Int} {A:Option Addr} {n c:Nat} {vO vS vN vI:Value} {bs:List S43} (h:HK w0 W gh fn rg A n c vO vS vN vI bs):Kd.S k43 43 W w0.heap.size (fun _=>True) (.slice A bs.length c) bs:=by
 have hl:(bs++m43).length=bs.length+16:=by rw [List.length_append];rfl
 have h2:=Kd.S_take (m:=bs.length) h.B (by omega)
 rwa [List.take_left' rfl] at h2
theorem kept_calls {w0 w:World} {gh:Nat} {fn rg:Int} {A:Option Addr} {n c:Nat} {vO vS vN vI:Value} {bs:List S43} (h:HK w0 w gh fn rg A n c vO vS vN vI bs) (hf:FitH bs) (hfc:FitC bs) (Ab:Option Addr) (cb:Nat) (hC:Kd.C k43 w Ab bs.length bs) (hcb:bs.length≤cb) :
  Calls Try.prog 13 #[.pointer (some ⟨gh,0,none⟩),.agg #[.int .i64 fn,.int .i64 rg,.slice Ab bs.length cb]] w fun e w'=>e= .returned (.bool true)∧Below w.heap.size w w':=by
 have hlen:n=bs.length:=h.len;subst hlen;have HH:=ak h;have HC:=ak hC;have HCB:=ak hcb;have hbm:bs.length+16≤9223372036854775807:=by have:=hf.blocks;omega
 have HFT:=ak hf;have HFC:=ak hfc;have hR:=Kd.S_reads' h.B;have hcut:=cut_row 22 43 Try.underlying22 info43 A (bs.length+16) c bs.length (by omega) hR.2.1;clear h hC hcb hf hfc hR
 go_enter Try.func13,Try.ntmps13
 go_wp2_with (first
  |((with_reducible refine gate_dst (N:=3) rfl ?_);refine LiveRunW.zero_event 24 #[.int .i64 fn,.int .i64 rg,.slice Ab bs.length cb] rfl rfl qb ?_;intro g3 w1 hg3 hA3 hb1;have HA3:=ak hA3;have HB1:=ak hb1;clear hg3 hA3 hb1))
 have HB2:=ak (below_step HB1.out (below_drew1 (Below.refl _ w1)));have H2:Aside0 (w1.drew.heap[g3]? =some (.cells #[.int .i64 fn,.int .i64 rg,.slice Ab bs.length cb] 24 (0,0))):=⟨HA3.out⟩
 clear HB1 HA3
 go_region_with (first
  |(go_at_call 32;refine (marked32_calls (HH.out.next HB2.out) HFT.out).mono ?_;rintro e w3 ⟨rfl,hb3⟩;have HB3:=ak (below_step HB2.out hb3);have H3:=ak ((hb3.block g3 (blk_lt H2.out)).trans H2.out);have u2:w3.cell? ⟨g3,2,none⟩=some (.slice Ab bs.length cb):=(qj H3 2);have h7:w3.cell? ⟨gh,7,none⟩=some (.slice A (bs.length+16) c):=((blk_cell (HH.out.next HB3.out).blk 7).trans rfl);clear hb3)
  |(go_at_call 33;refine (blocks33_calls bs HFC.out A Ab c cb _ (Kd.S_reads' (HK.code (HH.out.next HB3.out))).2.2 (Kd.S_reads' (HK.code HH.out)).2.1 (Kd.C_below HC.out HB3.out) HCB.out).mono ?_;rintro e w4 ⟨rfl,hb4⟩;have HB4:=ak (below_step HB3.out hb4);clear hb4))
 all_goals (
  go_wp2_with fail
  go_ret
  exact ⟨rfl,HB4.out⟩)
end Go.Proofs.Ytklknkfoafdgpaa.LiveKept
