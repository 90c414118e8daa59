import Derived.Test.YtklknkfoafdgpaaLiveRunS
import Derived.Test.YtklknkfoafdgpaaLiveKn
import Derived.Test.YtklknkfoafdgpaaLiveEqR
namespace Go.Proofs.Ytklknkfoafdgpaa.LiveRunLaw
set_option maxHeartbeats 8000000
set_option maxRecDepth 100000
open RowKit YtklknkfoafdgpaaW.PrintWords YtklknkfoafdgpaaW.PrintLast YtklknkfoafdgpaaW.PrintMore
open PLiveKnown LiveT LiveB LiveInv LiveSet LiveAhead LiveEnd LiveSettled LiveCopied LiveAft LiveRunP LiveSame LiveFit LiveRefP LiveHandP LiveHandC LiveKept LiveRunS
set_option linter.unusedVariables false
set_option linter.unusedSimpArgs false
def r4_14_T:Bool×List (List Nat×List Nat):=(true,[([],[]),([0],[0]),([],[]),([1,2],[1,2]),([3],[3]),([4],[4]),([],[]),([],[]),([7],[7]),([],[]),([8,9],[8,9]),([10],[10]),([11],[11]),([],[]),([12,13],[12,13]),([14],[14]),([15],[15]),([5,6,0,1,2,3,4,5,6,7,8,9,10,11,12,13,14,15,16],[5,6]),([17,16,16,0,1,2,3,4,5,6,7,8,9,10,11,12,13,14,15,16],[16,17])])
def r4_14_B:List Nat:=[0,1,0,7,15,31,0,0,128,0,896,1920,3968,0,16256,32640,65408,131071,262143]
theorem r4_14_tab:rtab .any (opsOf Try.f4 14)=r4_14_T:=by kernel_rfl
theorem r4_14_bits:waitsOk r4_14_T.2 r4_14_B=true:=by kernel_rfl
def r4_16_T:Bool×List (List Nat×List Nat):=(true,[([],[]),([0],[0]),([],[]),([1,2,1],[1,2]),([3,3],[3]),([4],[4]),([4],[4]),([5,6,4,4],[4,5,6]),([4,7],[4,7]),([8,7,0,1,2,3,4,5,6,7,8],[8])])
def r4_16_B:List Nat:=[0,1,0,7,15,31,31,127,255,511]
theorem r4_16_tab:rtab .any (opsOf Try.f4 16)=r4_16_T:=by kernel_rfl
theorem r4_16_bits:waitsOk r4_16_T.2 r4_16_B=true:=by kernel_rfl
theorem run_law (fn rg fo ro:Int) (Ab Ao:Option Addr) (cb co:Nat) (bs bo:List S43) (V:Nat→RS) (w:World) (hC:Kd.C k43 w Ab bs.length bs) (hcb:bs.length≤cb) (hf:FitC bs) (hh:FitH bs) (hV:Lfp (codeOf bs) V) (hCo:Kd.C k43 w Ao bo.length bo) (hfo:FitC bo) :
  Calls Try.prog 4 #[.agg #[.int .i64 fn,.int .i64 rg,.slice Ab bs.length cb],.agg #[.int .i64 fo,.int .i64 ro,.slice Ao bo.length co]] w fun e w'=>e= .returned (.bool true)∧Below w.heap.size w w':=by
 have HC:=ak hC;have HCB:=ak hcb;have HFT:=ak hf;have HFH:=ak hh;have HV:=ak hV;have HCO:=ak hCo;have HFO:=ak hfo;have HRL:=ak (runBs_length bs V);have HFR:=ak (fit_run hf V);have hbm:bs.length≤9223372036854775806:=by have:=hf.blocks;omega
 have hbo:bo.length≤9223372036854775806:=by have:=hfo.blocks;omega
 clear hC hcb hf hh hV hCo hfo
 go_enter Try.func4,Try.ntmps4
 go_wp2_with (first
  |((with_reducible refine gate_dst (N:=2) rfl ?_);refine LiveRunW.zero_event 24 #[.int .i64 fn,.int .i64 rg,.slice Ab bs.length cb] rfl rfl qb ?_;intro g2 w1 hg2 hA2 hb1;have HPg2:=ak hA2;have HB1:=ak hb1;clear hg2 hA2 hb1)
  |((with_reducible refine gate_dst (N:=3) rfl ?_);refine LiveRunW.zero_event 24 #[.int .i64 fo,.int .i64 ro,.slice Ao bo.length co] rfl rfl qb ?_;intro g3 w2 hg3 hA3 hb2;have HPg3:=ak hA3;replace HPg2:=ak ((hb2.block g2 (blk_lt HPg2.out)).trans HPg2.out);have HB2:=ak (below_step HB1.out hb2);have u0:w2.cell? ⟨g2,0,none⟩=some (.int .i64 fn):=(qj HPg2 0);have u1:w2.cell? ⟨g2,1,none⟩=some (.int .i64 rg):=(qj HPg2 1);have u2:w2.cell? ⟨g2,2,none⟩=some (.slice Ab bs.length cb):=(qj HPg2 2);clear hg3 hA3 hb2))
 refine (LiveRefR.rrun_calls fn rg Ab cb bs V _ (Kd.C_below HC.out HB2.out) HCB.out HFT.out HV.out).mono ?_;rintro e w3 ⟨vw,rfl,ho,hb3⟩;obtain ⟨Aw,cw,rfl⟩:=Kd.R_slice ho;rw [HRL.out] at ho ⊢;have CW:=ak (Kd.R_reads' ho);have HB3:=ak (below_step HB2.out hb3);replace HPg2:=ak ((hb3.block g2 (blk_lt HPg2.out)).trans HPg2.out);replace HPg3:=ak ((hb3.block g3 (blk_lt HPg3.out)).trans HPg3.out);clear ho hb3 u0 u1 u2
 go_upto_region 2 with (first
  |((with_reducible refine gate_dst (N:=5) rfl ?_);refine LiveRunW.zero_event 24 #[.int .i64 0,.int .i64 0,.slice none 0 0] rfl rfl qb ?_;intro g5 w4 hg5 hAg5 hbg5;have HGg5:=ak hg5;have HAg5:=ak hAg5;have HBg5:=ak hbg5;have z0:w4.cell? ⟨g5,0,none⟩=some (.int .i64 0):=(qk hAg5 0);have z1:w4.cell? ⟨g5,1,none⟩=some (.int .i64 0):=(qk hAg5 1);have z2:w4.cell? ⟨g5,2,none⟩=some (.slice none 0 0):=(qk hAg5 2);have y0:=blk_frozen hAg5 0;have y1:=blk_frozen hAg5 1;have y2:=blk_frozen hAg5 2;clear hg5 hAg5 hbg5))
 have HXg5:Aside0 (Below w3.heap.size w3 (((w4.setCell ⟨g5,0,none⟩ (.int .i64 fn)).setCell ⟨g5,1,none⟩ (.int .i64 rg)).setCell ⟨g5,2,none⟩ (.slice Aw bs.length cw))):=⟨below_set (below_set (below_set HBg5.out HGg5.out) HGg5.out) HGg5.out⟩
 have HPg5:Aside0 ((((w4.setCell ⟨g5,0,none⟩ (.int .i64 fn)).setCell ⟨g5,1,none⟩ (.int .i64 rg)).setCell ⟨g5,2,none⟩ (.slice Aw bs.length cw)).heap[g5]? =some (.cells #[.int .i64 fn,.int .i64 rg,(.slice Aw bs.length cw)] 24 (0,0))):=⟨blk_put (blk_put (blk_put HAg5.out 0 _ rfl) 1 _ rfl) 2 _ rfl⟩
 generalize (((w4.setCell ⟨g5,0,none⟩ (.int .i64 fn)).setCell ⟨g5,1,none⟩ (.int .i64 rg)).setCell ⟨g5,2,none⟩ (.slice Aw bs.length cw))=w5 at HXg5 HPg5 ⊢;clear z0 z1 z2 y0 y1 y2 HAg5 HBg5 HGg5;have HB5:=ak (below_step HB3.out HXg5.out);replace HPg2:=ak ((HXg5.out.block g2 (blk_lt HPg2.out)).trans HPg2.out);replace HPg3:=ak ((HXg5.out.block g3 (blk_lt HPg3.out)).trans HPg3.out);have G3:=HPg3;have G5:=HPg5;have u0:w5.cell? ⟨g2,0,none⟩=some (.int .i64 fn):=qj HPg2 0;have u1:w5.cell? ⟨g2,1,none⟩=some (.int .i64 rg):=qj HPg2 1
 have u2:w5.cell? ⟨g2,2,none⟩=some (.slice Ab bs.length cb):=qj HPg2 2
 go_wp2_with fail
 refine (hand_calls fn rg Ab cb bs _ (Kd.C_below HC.out HB5.out) HFH.out).mono ?_;rintro e wH ⟨gh,A,c,vO,vS,vN,vI,rfl,hk⟩;have HK:=ak hk;replace HPg2:=ak ((hk.below.block g2 (blk_lt HPg2.out)).trans HPg2.out);replace HPg3:=ak ((hk.below.block g3 (blk_lt HPg3.out)).trans HPg3.out);replace HPg5:=ak ((hk.below.block g5 (blk_lt HPg5.out)).trans HPg5.out);have q0:wH.cell? ⟨gh,0,none⟩=some (.int .i64 fn):=(blk_cell hk.blk 0).trans rfl;have q1:wH.cell? ⟨gh,1,none⟩=some (.int .i64 rg):=(blk_cell hk.blk 1).trans rfl
 have q2:wH.cell? ⟨gh,2,none⟩=some (.slice A bs.length c):=(blk_cell hk.blk 2).trans rfl;have SH:Aside0 (Kd.S k43 43 wH w5.heap.size (fun k=>k<wH.heap.size) (.slice A bs.length c) bs):=⟨Kd.S_mono (Kd.S_bound (LiveKept.HK.code hk)) (fun _ hk=>hk.2.2.1)⟩
 clear hk u0 u1 u2
 go_upto_region 4 with (first
  |((with_reducible refine gate_dst (N:=7) rfl ?_);refine LiveRunW.zero_event 24 #[.int .i64 0,.int .i64 0,.slice none 0 0] rfl rfl qb ?_;intro g7 w6 hg7 hAg7 hbg7;have HGg7:=ak hg7;have HAg7:=ak hAg7;have HBg7:=ak hbg7;have z0:w6.cell? ⟨g7,0,none⟩=some (.int .i64 0):=(qk hAg7 0);have z1:w6.cell? ⟨g7,1,none⟩=some (.int .i64 0):=(qk hAg7 1);have z2:w6.cell? ⟨g7,2,none⟩=some (.slice none 0 0):=(qk hAg7 2);have y0:=blk_frozen hAg7 0;have y1:=blk_frozen hAg7 1;have y2:=blk_frozen hAg7 2;clear hg7 hAg7 hbg7))
 have HXg7:Aside0 (Below wH.heap.size wH (((w6.setCell ⟨g7,0,none⟩ (.int .i64 fn)).setCell ⟨g7,1,none⟩ (.int .i64 rg)).setCell ⟨g7,2,none⟩ (.slice A bs.length c))):=⟨below_set (below_set (below_set HBg7.out HGg7.out) HGg7.out) HGg7.out⟩
 have HPg7:Aside0 ((((w6.setCell ⟨g7,0,none⟩ (.int .i64 fn)).setCell ⟨g7,1,none⟩ (.int .i64 rg)).setCell ⟨g7,2,none⟩ (.slice A bs.length c)).heap[g7]? =some (.cells #[.int .i64 fn,.int .i64 rg,(.slice A bs.length c)] 24 (0,0))):=⟨blk_put (blk_put (blk_put HAg7.out 0 _ rfl) 1 _ rfl) 2 _ rfl⟩
 generalize (((w6.setCell ⟨g7,0,none⟩ (.int .i64 fn)).setCell ⟨g7,1,none⟩ (.int .i64 rg)).setCell ⟨g7,2,none⟩ (.slice A bs.length c))=w7 at HXg7 HPg7 ⊢;clear z0 z1 z2 y0 y1 y2 HAg7 HBg7 HGg7;replace HPg2:=ak ((HXg7.out.block g2 (blk_lt HPg2.out)).trans HPg2.out);replace HPg3:=ak ((HXg7.out.block g3 (blk_lt HPg3.out)).trans HPg3.out);replace HPg5:=ak ((HXg7.out.block g5 (blk_lt HPg5.out)).trans HPg5.out);clear q0 q1 q2;have q0:w7.cell? ⟨g7,0,none⟩=some (.int .i64 fn):=qj HPg7 0;have q1:w7.cell? ⟨g7,1,none⟩=some (.int .i64 rg):=qj HPg7 1
 have q2:w7.cell? ⟨g7,2,none⟩=some (.slice A bs.length c):=qj HPg7 2;have CH:Aside0 (Kd.C k43 w7 A bs.length bs):=⟨(Kd.S_reads' (Kd.S_below SH.out HXg7.out)).2.2⟩
 go_wp2_with fail
 refine (LiveRunW.run_calls fn rg A c bs V _ CH.out HFT.out HV.out).mono ?_;rintro e w8 ⟨va,rfl,ho,hb8⟩;obtain ⟨Aa,ca,rfl⟩:=Kd.R_slice ho;rw [HRL.out] at ho ⊢;have RA:=ak ho;have HB8:=ak (below_step HXg7.out hb8);replace HPg2:=ak ((hb8.block g2 (blk_lt HPg2.out)).trans HPg2.out);replace HPg3:=ak ((hb8.block g3 (blk_lt HPg3.out)).trans HPg3.out);replace HPg5:=ak ((hb8.block g5 (blk_lt HPg5.out)).trans HPg5.out);replace HPg7:=ak ((hb8.block g7 (blk_lt HPg7.out)).trans HPg7.out);have HX8:=ak hb8;clear ho hb8 q0 q1 q2
 go_upto_region 5 with (first
  |((with_reducible refine gate_dst (N:=8) rfl ?_);refine LiveRunW.zero_event 24 #[.int .i64 0,.int .i64 0,.slice none 0 0] rfl rfl qb ?_;intro g8 w9 hg8 hAg8 hbg8;have HGg8:=ak hg8;have HAg8:=ak hAg8;have HBg8:=ak hbg8;have z0:w9.cell? ⟨g8,0,none⟩=some (.int .i64 0):=(qk hAg8 0);have z1:w9.cell? ⟨g8,1,none⟩=some (.int .i64 0):=(qk hAg8 1);have z2:w9.cell? ⟨g8,2,none⟩=some (.slice none 0 0):=(qk hAg8 2);have y0:=blk_frozen hAg8 0;have y1:=blk_frozen hAg8 1;have y2:=blk_frozen hAg8 2;clear hg8 hAg8 hbg8))
 have HXg8:Aside0 (Below w8.heap.size w8 (((w9.setCell ⟨g8,0,none⟩ (.int .i64 fn)).setCell ⟨g8,1,none⟩ (.int .i64 rg)).setCell ⟨g8,2,none⟩ (.slice Aa bs.length ca))):=⟨below_set (below_set (below_set HBg8.out HGg8.out) HGg8.out) HGg8.out⟩
 have HPg8:Aside0 ((((w9.setCell ⟨g8,0,none⟩ (.int .i64 fn)).setCell ⟨g8,1,none⟩ (.int .i64 rg)).setCell ⟨g8,2,none⟩ (.slice Aa bs.length ca)).heap[g8]? =some (.cells #[.int .i64 fn,.int .i64 rg,(.slice Aa bs.length ca)] 24 (0,0))):=⟨blk_put (blk_put (blk_put HAg8.out 0 _ rfl) 1 _ rfl) 2 _ rfl⟩
 generalize (((w9.setCell ⟨g8,0,none⟩ (.int .i64 fn)).setCell ⟨g8,1,none⟩ (.int .i64 rg)).setCell ⟨g8,2,none⟩ (.slice Aa bs.length ca))=w10 at HXg8 HPg8 ⊢;clear z0 z1 z2 y0 y1 y2 HAg8 HBg8 HGg8;replace HPg2:=ak ((HXg8.out.block g2 (blk_lt HPg2.out)).trans HPg2.out);replace HPg3:=ak ((HXg8.out.block g3 (blk_lt HPg3.out)).trans HPg3.out);replace HPg5:=ak ((HXg8.out.block g5 (blk_lt HPg5.out)).trans HPg5.out);replace HPg7:=ak ((HXg8.out.block g7 (blk_lt HPg7.out)).trans HPg7.out);have q0:w10.cell? ⟨g7,0,none⟩=some (.int .i64 fn):=qj HPg7 0
 have q1:w10.cell? ⟨g7,1,none⟩=some (.int .i64 rg):=qj HPg7 1;have q2:w10.cell? ⟨g7,2,none⟩=some (.slice A bs.length c):=qj HPg7 2;have HB10:=ak (below_step HB8.out HXg8.out);have H710:=ak (below_step HX8.out HXg8.out)
 go_wp2_with fail
 refine (LiveRunW.run_calls fn rg A c bs V _ (Kd.C_below CH.out H710.out) HFT.out HV.out).mono ?_;rintro e w11 ⟨vb,rfl,ho,hb11⟩;obtain ⟨Ab',cb',rfl⟩:=Kd.R_slice ho;rw [HRL.out] at ho ⊢;have RB:=ak (Kd.R_reads' ho);have HB11:=ak (below_step HB10.out hb11);replace HPg2:=ak ((hb11.block g2 (blk_lt HPg2.out)).trans HPg2.out);replace HPg3:=ak ((hb11.block g3 (blk_lt HPg3.out)).trans HPg3.out);replace HPg5:=ak ((hb11.block g5 (blk_lt HPg5.out)).trans HPg5.out);replace HPg7:=ak ((hb11.block g7 (blk_lt HPg7.out)).trans HPg7.out)
 replace HPg8:=ak ((hb11.block g8 (blk_lt HPg8.out)).trans HPg8.out);have HX11:=ak (below_step HXg8.out hb11);clear ho hb11 q0 q1 q2
 go_upto_region 6 with (first
  |((with_reducible refine gate_dst (N:=9) rfl ?_);refine LiveRunW.zero_event 24 #[.int .i64 0,.int .i64 0,.slice none 0 0] rfl rfl qb ?_;intro g9 w12 hg9 hAg9 hbg9;have HGg9:=ak hg9;have HAg9:=ak hAg9;have HBg9:=ak hbg9;have z0:w12.cell? ⟨g9,0,none⟩=some (.int .i64 0):=(qk hAg9 0);have z1:w12.cell? ⟨g9,1,none⟩=some (.int .i64 0):=(qk hAg9 1);have z2:w12.cell? ⟨g9,2,none⟩=some (.slice none 0 0):=(qk hAg9 2);have y0:=blk_frozen hAg9 0;have y1:=blk_frozen hAg9 1;have y2:=blk_frozen hAg9 2;clear hg9 hAg9 hbg9))
 have HXg9:Aside0 (Below w11.heap.size w11 (((w12.setCell ⟨g9,0,none⟩ (.int .i64 fn)).setCell ⟨g9,1,none⟩ (.int .i64 rg)).setCell ⟨g9,2,none⟩ (.slice Ab' bs.length cb'))):=⟨below_set (below_set (below_set HBg9.out HGg9.out) HGg9.out) HGg9.out⟩
 have HPg9:Aside0 ((((w12.setCell ⟨g9,0,none⟩ (.int .i64 fn)).setCell ⟨g9,1,none⟩ (.int .i64 rg)).setCell ⟨g9,2,none⟩ (.slice Ab' bs.length cb')).heap[g9]? =some (.cells #[.int .i64 fn,.int .i64 rg,(.slice Ab' bs.length cb')] 24 (0,0))):=⟨blk_put (blk_put (blk_put HAg9.out 0 _ rfl) 1 _ rfl) 2 _ rfl⟩
 generalize (((w12.setCell ⟨g9,0,none⟩ (.int .i64 fn)).setCell ⟨g9,1,none⟩ (.int .i64 rg)).setCell ⟨g9,2,none⟩ (.slice Ab' bs.length cb'))=w13 at HXg9 HPg9 ⊢;clear z0 z1 z2 y0 y1 y2 HAg9 HBg9 HGg9;replace HPg2:=ak ((HXg9.out.block g2 (blk_lt HPg2.out)).trans HPg2.out);replace HPg3:=ak ((HXg9.out.block g3 (blk_lt HPg3.out)).trans HPg3.out);replace HPg5:=ak ((HXg9.out.block g5 (blk_lt HPg5.out)).trans HPg5.out);replace HPg7:=ak ((HXg9.out.block g7 (blk_lt HPg7.out)).trans HPg7.out);replace HPg8:=ak ((HXg9.out.block g8 (blk_lt HPg8.out)).trans HPg8.out)
 have HB13:=ak (below_step HB11.out HXg9.out);have H813:=ak (below_step HX11.out HXg9.out);have q0:w13.cell? ⟨g8,0,none⟩=some (.int .i64 fn):=qj HPg8 0;have q1:w13.cell? ⟨g8,1,none⟩=some (.int .i64 rg):=qj HPg8 1;have q2:w13.cell? ⟨g8,2,none⟩=some (.slice Aa bs.length ca):=qj HPg8 2;have p0:w13.cell? ⟨g5,0,none⟩=some (.int .i64 fn):=qj HPg5 0;have p1:w13.cell? ⟨g5,1,none⟩=some (.int .i64 rg):=qj HPg5 1;have p2:w13.cell? ⟨g5,2,none⟩=some (.slice Aw bs.length cw):=qj HPg5 2;have r0:w13.cell? ⟨g9,0,none⟩=some (.int .i64 fn):=qj HPg9 0
 have r1:w13.cell? ⟨g9,1,none⟩=some (.int .i64 rg):=qj HPg9 1;have r2:w13.cell? ⟨g9,2,none⟩=some (.slice Ab' bs.length cb'):=qj HPg9 2;have u0:w13.cell? ⟨g2,0,none⟩=some (.int .i64 fn):=qj HPg2 0;have u1:w13.cell? ⟨g2,1,none⟩=some (.int .i64 rg):=qj HPg2 1;have u2:w13.cell? ⟨g2,2,none⟩=some (.slice Ab bs.length cb):=qj HPg2 2;have CWH:Aside0 (Kd.C k43 wH Aw bs.length (runBs bs V)∧bs.length≤cw):=⟨by
  have h:=CW.out;rw [HRL.out] at h;exact ⟨Kd.C_below h.2.2 (below_step HXg5.out HK.out.below),h.2.1⟩⟩
 have CW5:Aside0 (Kd.C k43 w5 Aw bs.length (runBs bs V)∧bs.length≤cw):=⟨by
  have h:=CW.out;rw [HRL.out] at h;exact ⟨Kd.C_below h.2.2 HXg5.out,h.2.1⟩⟩
 have CA:Aside0 (Kd.C k43 w13 Aa bs.length (runBs bs V)∧bs.length≤ca):=⟨by
  have h:=Kd.R_reads' RA.out;rw [HRL.out] at h;exact ⟨Kd.C_below h.2.2 H813.out,h.2.1⟩⟩
 have CB:Aside0 (Kd.C k43 w13 Ab' bs.length (runBs bs V)∧bs.length≤cb'):=⟨by
  have h:=RB.out;rw [HRL.out] at h;exact ⟨Kd.C_below h.2.2 HXg9.out,h.2.1⟩⟩
 have TR:Aside0 (∀ W A A1 c c1,Kd.C k43 W A bs.length (runBs bs V)→bs.length≤c→Kd.C k43 W A1 bs.length (runBs bs V)→bs.length≤c1→Calls Try.prog 17 #[.agg #[.int .i64 fn,.int .i64 rg,.slice A bs.length c],.agg #[.int .i64 fn,.int .i64 rg,.slice A1 bs.length c1]] W fun e w'=>e= .returned (.bool true)∧Below W.heap.size W w'):=⟨fun W A A1 c c1 h1 h2 h3 h4=>by
  have h:=LiveEqR.regs17_calls fn rg (runBs bs V) A A1 c c1 W;rw [HRL.out] at h;exact h h1 h3⟩
 go_wp2_with fail
 refine (TR.out _ Aa Aw ca cw CA.out.1 CA.out.2 (Kd.C_below CWH.out.1 HB13.out) CWH.out.2).mono ?_;rintro e w14 ⟨rfl,hb14⟩;have HB14:=ak hb14;replace p0:=pw_cell_below hb14 p0;replace p1:=pw_cell_below hb14 p1;replace p2:=pw_cell_below hb14 p2;replace r0:=pw_cell_below hb14 r0;replace r1:=pw_cell_below hb14 r1;replace r2:=pw_cell_below hb14 r2;replace u0:=pw_cell_below hb14 u0;replace u1:=pw_cell_below hb14 u1;replace u2:=pw_cell_below hb14 u2;clear hb14 q0 q1 q2
 go_wp2_with fail
 refine (TR.out _ Ab' Aw cb' cw (Kd.C_below CB.out.1 HB14.out) CB.out.2 (Kd.C_below CWH.out.1 (below_step HB13.out HB14.out)) CWH.out.2).mono ?_;rintro e w15 ⟨rfl,hb15⟩;have HB15:=ak (below_step HB14.out hb15);replace u0:=pw_cell_below hb15 u0;replace u1:=pw_cell_below hb15 u1;replace u2:=pw_cell_below hb15 u2;clear hb15 p0 p1 p2 r0 r1 r2
 go_wp2_with fail
 have H0C:Aside0 (Below w.heap.size w wH):=⟨below_step HB5.out HK.out.below⟩
 refine (kept_calls (HK.out.next (below_step HB13.out HB15.out)) HFH.out HFT.out Ab cb (Kd.C_below HC.out (below_step H0C.out (below_step HB13.out HB15.out))) HCB.out).mono ?_;rintro e w16 ⟨rfl,hb16⟩;have HB16:=ak (below_step HB15.out hb16);clear hb16 u0 u1 u2
 go_wp2_with fail
 have HBH:=ak (below_step HB13.out HB16.out);have HLS:Aside0 (LS w5 wH w16 w16 g7 g8 fn rg A bs.length c (.slice Aa bs.length ca) (runBs bs V) bs):=⟨by
  refine ⟨below_step HK.out.below HBH.out,Kd.S_mono (Kd.S_below SH.out HBH.out) (fun k hk=> .inl hk),?_,(HB16.out.block g7 (blk_lt HPg7.out)).trans HPg7.out,(HB16.out.block g8 (blk_lt HPg8.out)).trans HPg8.out,Nat.le_refl _,HFT.out,rfl⟩;have h:=Kd.R_lower (Kd.R_below RA.out (below_step H813.out HB16.out)) HXg7.out.size;exact Kd.R_mono (Kd.R_bound h) (fun k hk=>⟨hk.2.1,hk.2.2.1⟩)⟩
 clear HPg2 HPg3 HPg5 HPg7 HPg8 HPg9 HXg5 HXg7 HXg8 HXg9 CA CB RA RB CH SH H710 H813 HX8 HX11 HB14 HB15 HB16 HB13 HB11 HB10 HB8
 go_loopw [10] (fun v10 wi=>∃ (i:Nat) (cur:List S43),i≤bs.length∧v10= .int .i64 i∧Aside0 (LS w5 wH w16 wi g7 g8 fn rg A bs.length c (.slice Aa bs.length ca) (runBs bs V) cur)) (fun v10 _=>bs.length-(intOf v10).toNat)
 case atStart=>exact ⟨0,bs,by omega,rfl,HLS⟩
 case round =>
  clear HLS;obtain ⟨i,cur,hi,rfl,HS⟩:=hrel
  by_cases hin:i<bs.length∧i<bo.length
  ·obtain ⟨h1,h2⟩:=hin;obtain ⟨gB,capB,hv,_⟩:=Kd.R_form (Kd.S_R HS.out.s) (by rw [←HS.out.len];omega);injection hv with hA hz1 hz2;clear hz1 hz2;obtain ⟨ad,had⟩:∃ ad,ad=(⟨gB,0,none⟩:Addr):=⟨_,rfl⟩
   rw [←had] at hA;subst hA;have q2:wr.cell? ⟨g7,2,none⟩=some (.slice (some ad) bs.length c):=(blk_cell HS.out.b7 2).trans rfl;have o2:=pw_cell_below HS.out.below (qj G3 2:w5.cell? ⟨g3,2,none⟩=some (.slice Ao bo.length co));have h1i:(i:Int)<bs.length:=by omega
   have h2i:(i:Int)<bo.length:=by omega
   have HI1:=ak h1;have HI2:=ak h2;obtain ⟨ado,Bo,bco,Bo2,bco2,eo,hy0,hy1,hy2,ly,hgo,_,_⟩:=rd_block HCO.out (Below.refl _ w) i h2;subst eo;have HGO:=ak hgo;have HY1:=ak (pw_cell_below HB5.out hy1);have HFY:=ak (HFO.out.ins i h2);have HFYE:=ak (HFO.out.each i h2);have hyl:(rd_T43 bo i).f1.length≤9223372036854775806:=by have:=HFY.out;omega
   clear h1 h2 hi had hy0 hy1 hy2 ly hgo
   go_upto_region 11 with fail
   go_wp2_with fail
   clear q2 o2;have HL0:Aside0 (LS w5 wH w16 wr g7 g8 fn rg (some ad) bs.length c (.slice Aa bs.length ca) (runBs bs V) cur):=⟨HS.out⟩
   clear HS
   go_loopw [11] (fun v11 wi=>∃ (k:Nat) (cur:List S43),k≤(rd_T43 bo i).f1.length∧v11= .int .i64 k∧Aside0 (LS w5 wH w16 wi g7 g8 fn rg (some ad) bs.length c (.slice Aa bs.length ca) (runBs bs V) cur)) (fun v11 _=>(rd_T43 bo i).f1.length-(intOf v11).toNat)
   case atStart=>exact ⟨0,cur,by omega,rfl,HL0⟩
   case round =>
    clear HL0 cur;obtain ⟨k,cur,hk,rfl,HS⟩:=hrel;have HIC:Aside0 (i<cur.length):=⟨by rw [←HS.out.len];exact HI1.out⟩
    obtain ⟨vI,vN,oki,hc1,hrI,hrN,hH⟩:=LS.lend HS.out HIC.out;obtain ⟨AI,cI,rfl⟩:=Kd.R_slice hrI;have q2:wr.cell? ⟨g7,2,none⟩=some (.slice (some ad) bs.length c):=(blk_cell HS.out.b7 2).trans rfl;have o2:=pw_cell_below HS.out.below (qj G3 2:w5.cell? ⟨g3,2,none⟩=some (.slice (some ado) bo.length co));have hy1:=pw_cell_below HS.out.below HY1.out;have HRI:=ak hrI;have HRN:=ak hrN;have HH:=ak hH;have HKL:=ak hk;clear hrI hrN hH hk
    by_cases hk1:k<(rd_T43 cur i).f1.length
    ·have hk1i:(k:Int)<(rd_T43 cur i).f1.length:=by omega
     obtain ⟨gI,capI,hvI,_⟩:=Kd.R_form HRI.out (by omega);injection hvI with hAI hz1 hz2;clear hz1 hz2;subst hAI;obtain ⟨adI,hadI⟩:∃ a,a=(⟨gI,0,none⟩:Addr):=⟨_,rfl⟩
     rw [←hadI] at HRI HH hc1;have HKI:=ak hk1;clear hadI hk1
     by_cases hk2:k<(rd_T43 bo i).f1.length
     ·have hk2i:(k:Int)<(rd_T43 bo i).f1.length:=by omega
      obtain ⟨adj,B3,d3,B7,d7,eb,hin,hrin⟩:=rd_ins HGO.out k hk2;subst eb;have HIN:=ak hin;have HRX:=ak hrin;have HFX:=ak (HFYE.out k hk2);have HKO:=ak hk2;clear hin hrin hk2
      go_upto_region 14 with fail
      have hbW:Aside0 (Below w.heap.size w wr.drew):=⟨below_drew1 (below_step HB5.out HS.out.below)⟩
      generalize rd_T47 (rd_T43 bo i).f1 k=x at HIN HRX HFX;have HSD:=ak (HS.out.next (below_drew1 (Below.refl _ wr)));have HRD:=ak (Kd.R_below HRI.out (below_drew1 (Below.refl _ wr)));have HND:=ak (Kd.R_below HRN.out (below_drew1 (Below.refl _ wr)));have HHD:=ak (Kd.H_below HH.out (below_drew1 (Below.refl _ wr)));obtain ⟨q0,q1,q2',q3,q4,q5,q6,q7⟩:=HIN.out.below hbW.out;have Z0:Aside0 (wr.drew.cell? ⟨g7,2,none⟩=some (.slice (some ad) bs.length c)):=⟨(blk_cell HSD.out.b7 2).trans rfl⟩
      have Z1:Aside0 (wr.drew.cell? ⟨(ad.add (i*3)).block,(ad.add (i*3)).off+1,none⟩=some (.slice (some adI) (rd_T43 cur i).f1.length cI)):=⟨hc1⟩
      have Z2:Aside0 (wr.drew.cell? ⟨g3,2,none⟩=some (.slice (some ado) bo.length co)):=⟨o2⟩
      have Z3:Aside0 (wr.drew.cell? ⟨(ado.add (i*3)).block,(ado.add (i*3)).off+1,none⟩=some (.slice (some adj) (rd_T43 bo i).f1.length bco)):=⟨hy1⟩
      have Z4:Aside0 (wr.drew.cell? (adj.add (k*8))=some (.int .i64 x.f0)):=⟨q0⟩
      have Z5:Aside0 (wr.drew.cell? ⟨(adj.add (k*8)).block,(adj.add (k*8)).off+1,none⟩=some (.int .i64 x.f1)):=⟨q1⟩
      have Z6:Aside0 (wr.drew.cell? ⟨(adj.add (k*8)).block,(adj.add (k*8)).off+2,none⟩=some (.int .i64 x.f2)):=⟨q2'⟩
      have Z7:Aside0 (wr.drew.cell? ⟨(adj.add (k*8)).block,(adj.add (k*8)).off+3,none⟩=some (.slice B3 x.f3.length d3)):=⟨q3⟩
      have Z8:Aside0 (wr.drew.cell? ⟨(adj.add (k*8)).block,(adj.add (k*8)).off+4,none⟩=some (.int .i64 x.f4)):=⟨q4⟩
      have Z9:Aside0 (wr.drew.cell? ⟨(adj.add (k*8)).block,(adj.add (k*8)).off+5,none⟩=some (.int .i64 x.f5)):=⟨q5⟩
      have Z10:Aside0 (wr.drew.cell? ⟨(adj.add (k*8)).block,(adj.add (k*8)).off+6,none⟩=some (.int .i64 x.f6)):=⟨q6⟩
      have Z11:Aside0 (wr.drew.cell? ⟨(adj.add (k*8)).block,(adj.add (k*8)).off+7,none⟩=some (.slice B7 x.f7.length d7)):=⟨q7⟩
      clear q0 q1 q2' q3 q4 q5 q6 q7 q2 o2 hy1 hc1 HIN;have HRXW:=ak (HRX.out.below hbW.out)
      refine start_ (n:=19) (S:=fun w'=>w'.cell? ⟨g7,2,none⟩=some (.slice (some ad) bs.length c)∧w'.cell? ⟨(ad.add (i*3)).block,(ad.add (i*3)).off+1,none⟩=some (.slice (some adI) (rd_T43 cur i).f1.length cI)∧w'.cell? ⟨g3,2,none⟩=some (.slice (some ado) bo.length co)∧w'.cell? ⟨(ado.add (i*3)).block,(ado.add (i*3)).off+1,none⟩=some (.slice (some adj) (rd_T43 bo i).f1.length bco)∧w'.cell? (adj.add (k*8))=some (.int .i64 x.f0)∧w'.cell? ⟨(adj.add (k*8)).block,(adj.add (k*8)).off+1,none⟩=some (.int .i64 x.f1)∧w'.cell? ⟨(adj.add (k*8)).block,(adj.add (k*8)).off+2,none⟩=some (.int .i64 x.f2)∧w'.cell? ⟨(adj.add (k*8)).block,(adj.add (k*8)).off+3,none⟩=some (.slice B3 x.f3.length d3)∧w'.cell? ⟨(adj.add (k*8)).block,(adj.add (k*8)).off+4,none⟩=some (.int .i64 x.f4)∧w'.cell? ⟨(adj.add (k*8)).block,(adj.add (k*8)).off+5,none⟩=some (.int .i64 x.f5)∧w'.cell? ⟨(adj.add (k*8)).block,(adj.add (k*8)).off+6,none⟩=some (.int .i64 x.f6)∧w'.cell? ⟨(adj.add (k*8)).block,(adj.add (k*8)).off+7,none⟩=some (.slice B7 x.f7.length d7)) (ds:=[18]) (bz 19 0) (by kernel_rfl) rfl rfl ⟨Z0.out,Z1.out,Z2.out,Z3.out,Z4.out,Z5.out,Z6.out,Z7.out,Z8.out,Z9.out,Z10.out,Z11.out⟩ (fun hHeld=>?_)
      refine with_tabW r4_14_tab r4_14_bits (fun HT_ HW_=>?_);generalize World.drew wr=W2 at HSD HRD HND HHD HRXW hbW Z0 Z1 Z2 Z3 Z4 Z5 Z6 Z7 Z8 Z9 Z10 Z11 hHeld ⊢;refine pu 0 77 19 1 ?_;refine tk 1 78 19 2 ?_;refine pu 2 79 19 3 ?_;refine pu 3 80 19 4 ?_;refine pu 4 81 19 5 ?_;refine tk 5 82 19 6 ?_;refine pu 6 83 19 7 ?_;refine pu 7 84 19 8 ?_;refine tk 8 85 19 9 ?_;refine pu 9 86 19 10 ?_;refine pu 10 87 19 11 ?_;refine pu 11 88 19 12 ?_;refine tk 12 89 19 13 ?_;refine pu 13 90 19 14 ?_;refine pu 14 91 19 15 ?_;refine tk 15 92 19 16 ?_
      refine one_ (i:=16) (N:=some 93) (bz 19 17) rfl rfl (one_of HT_.out (by kernel_rfl)) (by decide) (fun K hK=>?_);refine goes_ Try.func18 (by kernel_rfl) rfl #[v47 x B3 d3 B7 d7] (by rfl) rfl rfl (by (try simp only [List.map_toArray,List.map_cons,List.map_nil]);first |done |rfl) ?_;refine (copyIns_calls x B3 d3 B7 d7 W2 HRXW.out HFX.out).mono ?_;rintro e w6 ⟨v3,v7,rfl,ho3,ho7,hb6⟩;refine ⟨_,rfl,?_⟩;have HB6:=ak hb6;have HO3:=ak ho3;have HO7:=ak ho7
      refine hK.out _ _ ⟨pw_cell_below hb6 Z0.out,pw_cell_below hb6 Z1.out,pw_cell_below hb6 Z2.out,pw_cell_below hb6 Z3.out,pw_cell_below hb6 Z4.out,pw_cell_below hb6 Z5.out,pw_cell_below hb6 Z6.out,pw_cell_below hb6 Z7.out,pw_cell_below hb6 Z8.out,pw_cell_below hb6 Z9.out,pw_cell_below hb6 Z10.out,pw_cell_below hb6 Z11.out⟩ (fun hHeld=>?_);clear hK K;refine norm_ (a':=?_) ?_ ?_;rotate_left
      ·show Act.put _ (some 93) _=_
       simp only [Act.put,sA,sB,sC,i64_w,i32_w];rfl
      clear ho3 ho7 hb6;refine pu 17 94 19 18 ?_;refine last_ (i:=18) (N:=none) (bz 19 19) rfl rfl (one_of HT_.out (by kernel_rfl)) (by decide) (fun K hK=>?_);obtain ⟨W7,hrun,hls⟩:=LS.write HSD.out HIC.out HKI.out HRD.out HND.out HHD.out HB6.out HFX.out HO3.out HO7.out;refine skip_ (w1:=W7) (by rfl) rfl (hrun (.tmp 94) (.tmp 93) (by rfl) (by rfl) (by rfl)) ?_;have HLS:=ak hls;clear hrun hls;refine hK.out _ _ ?_;clear hK K;refine done_ (done_of HT_.out (by kernel_rfl)) ?_
      go_wp2_with fail
      go_roundw
      case rel=>exact ⟨k+1,_,by have:=HKO.out;omega,by go_num,HLS⟩
      case measure=>have:=HKO.out;simp [intOf];omega
     ·clear HKL;have HL1:=ak HS.out
      go_wp2_with fail
      go_roundw
      case rel=>exact ⟨i+1,cur,by have:=HI1.out;omega,by go_num,⟨HS.out⟩⟩
      case measure=>have:=HI1.out;simp [intOf];omega
    ·have hk1i:¬ (k:Int)<(rd_T43 cur i).f1.length:=by omega
     go_wp2_with fail
     go_roundw
     case rel=>exact ⟨i+1,cur,by have:=HI1.out;omega,by go_num,⟨HS.out⟩⟩
     case measure=>have:=HI1.out;simp [intOf];omega
  ·have hcase:(i<bs.length∧¬ i<bo.length)∨¬ i<bs.length:=by omega
   have q2:wr.cell? ⟨g7,2,none⟩=some (.slice A bs.length c):=(blk_cell HS.out.b7 2).trans rfl;have o2:=pw_cell_below HS.out.below (qj G3 2:w5.cell? ⟨g3,2,none⟩=some (.slice Ao bo.length co));have HCA:Aside0 (Kd.C k43 wr Aa bs.length (runBs bs V)∧bs.length≤ca):=⟨by
    have h:=Kd.R_reads' HS.out.a;rw [HRL.out] at h;exact ⟨h.2.2,h.2.1⟩⟩
   clear hin hi
   rcases hcase with ⟨h1,h2⟩ |h1
   ·have h1i:(i:Int)<bs.length:=by omega
    have h2i:¬ (i:Int)<bo.length:=by omega
    clear h1 h2
    go_upto_region 15 with fail
    clear q2 o2;obtain ⟨V',hV'⟩:=LiveKn.lfp_exists (codeOf cur);have HV':=ak hV';have HFC:=ak HS.out.fit;have CC:Aside0 (∀ W,Below wr.heap.size wr W→Kd.C k43 W A cur.length cur):=⟨fun W hW=>Kd.C_below (Kd.S_reads' HS.out.s).2.2 hW⟩
    have CC2:Aside0 (cur.length≤c):=⟨by have:=Kd.S_reads' HS.out.s;omega⟩
    have CRC:Aside0 (∀ W,Below wr.heap.size wr W→Calls Try.prog 19 #[.agg #[.int .i64 fn,.int .i64 rg,.slice A bs.length c]] W fun e w'=>∃ v,e= .returned (.agg #[.int .i64 fn,.int .i64 rg,v])∧Kd.R k43 43 w' W.heap.size (fun _=>True) v cur∧Below W.heap.size W w'):=⟨fun W hW=>by
     have h:=LiveEqC.regs19_calls fn rg A c cur W (CC.out W hW) HFC.out;rw [←HS.out.len] at h;exact h⟩
    have CRUN:Aside0 (∀ W,Below wr.heap.size wr W→Calls Try.prog 16 #[.agg #[.int .i64 fn,.int .i64 rg,.slice A bs.length c]] W fun e w'=>∃ v,e= .returned (.agg #[.int .i64 fn,.int .i64 rg,v])∧Kd.R k43 43 w' W.heap.size (fun _=>True) v (runBs cur V')∧Below W.heap.size W w'):=⟨fun W hW=>by
     have h:=LiveRunW.run_calls fn rg A c cur V' W (CC.out W hW) HFC.out HV'.out;rw [←HS.out.len] at h;exact h⟩
    have HFRC:=ak (fit_run HFC.out V');have q0:wr.cell? ⟨g7,0,none⟩=some (.int .i64 fn):=(blk_cell HS.out.b7 0).trans rfl;have q1:wr.cell? ⟨g7,1,none⟩=some (.int .i64 rg):=(blk_cell HS.out.b7 1).trans rfl;have q2:wr.cell? ⟨g7,2,none⟩=some (.slice A bs.length c):=(blk_cell HS.out.b7 2).trans rfl;clear hV'
    go_wp2_with fail
    refine (CRC.out _ (Below.refl _ _)).mono ?_;rintro e w17 ⟨vc,rfl,ho17,hb17⟩;obtain ⟨Ac,cc,rfl⟩:=Kd.R_slice ho17;have HB17:=ak hb17;have RC:=ak (Kd.R_reads' ho17);clear ho17 hb17 q0 q1 q2
    go_wp2_with fail
    refine (LiveRefR.rrun_calls fn rg Ac cc cur V' _ RC.out.2.2 RC.out.2.1 HFC.out HV'.out).mono ?_;rintro e w18 ⟨vn,rfl,ho18,hb18⟩;obtain ⟨An,cn,rfl⟩:=Kd.R_slice ho18;have RN:=ak (Kd.R_reads' ho18);have HB18:=ak (below_step HB17.out hb18);clear ho18 hb18
    go_upto_region 16 with ((with_reducible refine gate_dst (N:=12) rfl ?_);refine LiveRunW.zero_event 24 #[.int .i64 0,.int .i64 0,.slice none 0 0] rfl rfl qb ?_;intro g12 w19 hg12 hAg12 hbg12;have HGg12:=ak hg12;have HAg12:=ak hAg12;have HBg12:=ak hbg12;have z0:w19.cell? ⟨g12,0,none⟩=some (.int .i64 0):=(qk hAg12 0);have z1:w19.cell? ⟨g12,1,none⟩=some (.int .i64 0):=(qk hAg12 1);have z2:w19.cell? ⟨g12,2,none⟩=some (.slice none 0 0):=(qk hAg12 2);have y0:=blk_frozen hAg12 0;have y1:=blk_frozen hAg12 1;have y2:=blk_frozen hAg12 2;clear hg12 hAg12 hbg12)
    have HXg12:Aside0 (Below w18.heap.size w18 (((w19.setCell ⟨g12,0,none⟩ (.int .i64 fn)).setCell ⟨g12,1,none⟩ (.int .i64 rg)).setCell ⟨g12,2,none⟩ (.slice An (runBs cur V').length cn))):=⟨below_set (below_set (below_set HBg12.out HGg12.out) HGg12.out) HGg12.out⟩
    have HPg12:Aside0 ((((w19.setCell ⟨g12,0,none⟩ (.int .i64 fn)).setCell ⟨g12,1,none⟩ (.int .i64 rg)).setCell ⟨g12,2,none⟩ (.slice An (runBs cur V').length cn)).heap[g12]? =some (.cells #[.int .i64 fn,.int .i64 rg,(.slice An (runBs cur V').length cn)] 24 (0,0))):=⟨blk_put (blk_put (blk_put HAg12.out 0 _ rfl) 1 _ rfl) 2 _ rfl⟩
    generalize (((w19.setCell ⟨g12,0,none⟩ (.int .i64 fn)).setCell ⟨g12,1,none⟩ (.int .i64 rg)).setCell ⟨g12,2,none⟩ (.slice An (runBs cur V').length cn))=w20 at HXg12 HPg12 ⊢;clear z0 z1 z2 y0 y1 y2 HAg12 HBg12 HGg12;have HB20:=ak (below_step HB18.out HXg12.out);have HS20:=ak (HS.out.next HB20.out);have G5':=ak ((HS20.out.below.block g5 (blk_lt G5.out)).trans G5.out);have HBD:=ak (below_step HB20.out (below_drew1 (Below.refl _ w20)));have q0:w20.cell? ⟨g7,0,none⟩=some (.int .i64 fn):=(blk_cell HS20.out.b7 0).trans rfl
    have q1:w20.cell? ⟨g7,1,none⟩=some (.int .i64 rg):=(blk_cell HS20.out.b7 1).trans rfl;have q2:w20.cell? ⟨g7,2,none⟩=some (.slice A bs.length c):=(blk_cell HS20.out.b7 2).trans rfl;have r0:w20.cell? ⟨g8,0,none⟩=some (.int .i64 fn):=(blk_cell HS20.out.b8 0).trans rfl;have r1:w20.cell? ⟨g8,1,none⟩=some (.int .i64 rg):=(blk_cell HS20.out.b8 1).trans rfl;have r2:w20.cell? ⟨g8,2,none⟩=some (.slice Aa bs.length ca):=(blk_cell HS20.out.b8 2).trans rfl;have p0:w20.cell? ⟨g5,0,none⟩=some (.int .i64 fn):=qj G5' 0
    have p1:w20.cell? ⟨g5,1,none⟩=some (.int .i64 rg):=qj G5' 1;have p2:w20.cell? ⟨g5,2,none⟩=some (.slice Aw bs.length cw):=qj G5' 2;have t0:w20.cell? ⟨g12,0,none⟩=some (.int .i64 fn):=qj HPg12 0;have t1:w20.cell? ⟨g12,1,none⟩=some (.int .i64 rg):=qj HPg12 1;have t2:w20.cell? ⟨g12,2,none⟩=some (.slice An (runBs cur V').length cn):=qj HPg12 2;have Z0:Aside0 (w20.drew.cell? ⟨g7,0,none⟩=some (.int .i64 fn)):=⟨q0⟩
    have Z1:Aside0 (w20.drew.cell? ⟨g7,1,none⟩=some (.int .i64 rg)):=⟨q1⟩
    have Z2:Aside0 (w20.drew.cell? ⟨g7,2,none⟩=some (.slice A bs.length c)):=⟨q2⟩
    have Z3:Aside0 (w20.drew.cell? ⟨g12,0,none⟩=some (.int .i64 fn)):=⟨t0⟩
    have Z4:Aside0 (w20.drew.cell? ⟨g12,1,none⟩=some (.int .i64 rg)):=⟨t1⟩
    have Z5:Aside0 (w20.drew.cell? ⟨g12,2,none⟩=some (.slice An (runBs cur V').length cn)):=⟨t2⟩
    have Z6:Aside0 (w20.drew.cell? ⟨g8,0,none⟩=some (.int .i64 fn)):=⟨r0⟩
    have Z7:Aside0 (w20.drew.cell? ⟨g8,1,none⟩=some (.int .i64 rg)):=⟨r1⟩
    have Z8:Aside0 (w20.drew.cell? ⟨g8,2,none⟩=some (.slice Aa bs.length ca)):=⟨r2⟩
    have Z9:Aside0 (w20.drew.cell? ⟨g5,0,none⟩=some (.int .i64 fn)):=⟨p0⟩
    have Z10:Aside0 (w20.drew.cell? ⟨g5,1,none⟩=some (.int .i64 rg)):=⟨p1⟩
    have Z11:Aside0 (w20.drew.cell? ⟨g5,2,none⟩=some (.slice Aw bs.length cw)):=⟨p2⟩
    clear q0 q1 q2 t0 t1 t2 r0 r1 r2 p0 p1 p2;have HB20D:Aside0 (Below w20.heap.size w20 w20.drew):=⟨below_drew1 (Below.refl _ w20)⟩
    refine start_ (n:=10) (S:=fun w'=>w'.cell? ⟨g7,0,none⟩=some (.int .i64 fn)∧w'.cell? ⟨g7,1,none⟩=some (.int .i64 rg)∧w'.cell? ⟨g7,2,none⟩=some (.slice A bs.length c)∧w'.cell? ⟨g12,0,none⟩=some (.int .i64 fn)∧w'.cell? ⟨g12,1,none⟩=some (.int .i64 rg)∧w'.cell? ⟨g12,2,none⟩=some (.slice An (runBs cur V').length cn)∧w'.cell? ⟨g8,0,none⟩=some (.int .i64 fn)∧w'.cell? ⟨g8,1,none⟩=some (.int .i64 rg)∧w'.cell? ⟨g8,2,none⟩=some (.slice Aa bs.length ca)∧w'.cell? ⟨g5,0,none⟩=some (.int .i64 fn)∧w'.cell? ⟨g5,1,none⟩=some (.int .i64 rg)∧w'.cell? ⟨g5,2,none⟩=some (.slice Aw bs.length cw)) (ds:=[]) (bz 10 0) (by kernel_rfl) rfl rfl ⟨Z0.out,Z1.out,Z2.out,Z3.out,Z4.out,Z5.out,Z6.out,Z7.out,Z8.out,Z9.out,Z10.out,Z11.out⟩ (fun hHeld=>?_)
    refine with_tabW r4_16_tab r4_16_bits (fun HT_ HW_=>?_);generalize World.drew w20=W2 at HBD HB20D Z0 Z1 Z2 Z3 Z4 Z5 Z6 Z7 Z8 Z9 Z10 Z11 hHeld ⊢;refine tk 0 98 10 1 ?_;refine tq 2 100 10 5 ?_;refine one_ (i:=1) (N:=some 99) (bz 10 3) rfl rfl (one_of HT_.out (by kernel_rfl)) (by decide) (fun K hK=>?_);refine goes_ Try.func16 (by kernel_rfl) rfl #[.agg #[.int .i64 fn,.int .i64 rg,.slice A bs.length c]] (by rfl) rfl rfl (by (try simp only [List.map_toArray,List.map_cons,List.map_nil]);first |done |rfl) ?_;refine (CRUN.out W2 HBD.out).mono ?_;rintro e w21 ⟨v,rfl,ho,hb0⟩
    refine ⟨_,rfl,?_⟩;obtain ⟨Ar,cr,rfl⟩:=Kd.R_slice ho;have RR:=ak (Kd.R_reads' ho);have HB21:=ak (below_step HXg12.out (below_step HB20D.out hb0));have X21:=ak hb0;clear ho hb0;refine hK.out _ _ ⟨pw_cell_below X21.out Z0.out,pw_cell_below X21.out Z1.out,pw_cell_below X21.out Z2.out,pw_cell_below X21.out Z3.out,pw_cell_below X21.out Z4.out,pw_cell_below X21.out Z5.out,pw_cell_below X21.out Z6.out,pw_cell_below X21.out Z7.out,pw_cell_below X21.out Z8.out,pw_cell_below X21.out Z9.out,pw_cell_below X21.out Z10.out,pw_cell_below X21.out Z11.out⟩ (fun hHeld=>?_);clear hK K
    refine norm_ (a':=?_) ?_ ?_;rotate_left
    ·show Act.put _ (some 99) _=_
     simp only [Act.put,sA,sB,sC,i64_w,i32_w];rfl
    refine one_ (i:=3) (N:=some 101) (bz 10 4) rfl rfl (one_of HT_.out (by kernel_rfl)) (by decide) (fun K hK=>?_);refine goes_ Try.func17 (by kernel_rfl) rfl #[.agg #[.int .i64 fn,.int .i64 rg,.slice Ar (runBs cur V').length cr],.agg #[.int .i64 fn,.int .i64 rg,.slice An (runBs cur V').length cn]] (by rfl) rfl rfl (by (try simp only [List.map_toArray,List.map_cons,List.map_nil]);first |done |rfl) ?_;refine (LiveEqR.regs17_calls fn rg (runBs cur V') Ar An cr cn _ RR.out.2.2 (Kd.C_below RN.out.2.2 HB21.out)).mono ?_;rintro e w22 ⟨rfl,hb0⟩;refine ⟨_,rfl,?_⟩
    have HB22:=ak (below_step HB18.out (below_step HB21.out hb0));have X22:=ak (below_step X21.out hb0);clear hb0;refine hK.out _ _ ⟨pw_cell_below X22.out Z0.out,pw_cell_below X22.out Z1.out,pw_cell_below X22.out Z2.out,pw_cell_below X22.out Z3.out,pw_cell_below X22.out Z4.out,pw_cell_below X22.out Z5.out,pw_cell_below X22.out Z6.out,pw_cell_below X22.out Z7.out,pw_cell_below X22.out Z8.out,pw_cell_below X22.out Z9.out,pw_cell_below X22.out Z10.out,pw_cell_below X22.out Z11.out⟩ (fun hHeld=>?_);clear hK K;refine norm_ (a':=?_) ?_ ?_;rotate_left
    ·show Act.put _ (some 101) _=_
     simp only [Act.put,sA,sB,sC,i64_w,i32_w];rfl
    refine pu 4 102 10 5 ?_;refine tk 5 103 10 6 ?_;refine tk 6 104 10 7 ?_;refine one_ (i:=7) (N:=some 105) (bz 10 8) rfl rfl (one_of HT_.out (by kernel_rfl)) (by decide) (fun K hK=>?_);refine goes_ Try.func17 (by kernel_rfl) rfl #[.agg #[.int .i64 fn,.int .i64 rg,.slice Aa bs.length ca],.agg #[.int .i64 fn,.int .i64 rg,.slice Aw bs.length cw]] (by rfl) rfl rfl (by (try simp only [List.map_toArray,List.map_cons,List.map_nil]);first |done |rfl) ?_
    refine (TR.out _ Aa Aw ca cw (Kd.C_below HCA.out.1 HB22.out) HCA.out.2 (Kd.C_below CW5.out.1 (below_step HS.out.below HB22.out)) CW5.out.2).mono ?_;rintro e w23 ⟨rfl,hb0⟩;refine ⟨_,rfl,?_⟩;have HB23:=ak (below_step HB22.out hb0);have X23:=ak (below_step X22.out hb0);clear hb0
    refine hK.out _ _ ⟨pw_cell_below X23.out Z0.out,pw_cell_below X23.out Z1.out,pw_cell_below X23.out Z2.out,pw_cell_below X23.out Z3.out,pw_cell_below X23.out Z4.out,pw_cell_below X23.out Z5.out,pw_cell_below X23.out Z6.out,pw_cell_below X23.out Z7.out,pw_cell_below X23.out Z8.out,pw_cell_below X23.out Z9.out,pw_cell_below X23.out Z10.out,pw_cell_below X23.out Z11.out⟩ (fun hHeld=>?_);clear hK K;refine norm_ (a':=?_) ?_ ?_;rotate_left
    ·show Act.put _ (some 105) _=_
     simp only [Act.put,sA,sB,sC,i64_w,i32_w];rfl
    refine pu 8 106 10 9 ?_;refine pu 9 4 10 10 ?_;refine done_ (done_of HT_.out (by kernel_rfl)) ?_
    go_wp2_with fail
    go_ret
    exact ⟨rfl,below_step HB5.out (below_step HS.out.below HB23.out)⟩
   ·have h1i:¬ (i:Int)<bs.length:=by omega
    clear h1
    go_upto_region 15 with fail
    clear q2 o2;obtain ⟨V',hV'⟩:=LiveKn.lfp_exists (codeOf cur);have HV':=ak hV';have HFC:=ak HS.out.fit;have CC:Aside0 (∀ W,Below wr.heap.size wr W→Kd.C k43 W A cur.length cur):=⟨fun W hW=>Kd.C_below (Kd.S_reads' HS.out.s).2.2 hW⟩
    have CC2:Aside0 (cur.length≤c):=⟨by have:=Kd.S_reads' HS.out.s;omega⟩
    have CRC:Aside0 (∀ W,Below wr.heap.size wr W→Calls Try.prog 19 #[.agg #[.int .i64 fn,.int .i64 rg,.slice A bs.length c]] W fun e w'=>∃ v,e= .returned (.agg #[.int .i64 fn,.int .i64 rg,v])∧Kd.R k43 43 w' W.heap.size (fun _=>True) v cur∧Below W.heap.size W w'):=⟨fun W hW=>by
     have h:=LiveEqC.regs19_calls fn rg A c cur W (CC.out W hW) HFC.out;rw [←HS.out.len] at h;exact h⟩
    have CRUN:Aside0 (∀ W,Below wr.heap.size wr W→Calls Try.prog 16 #[.agg #[.int .i64 fn,.int .i64 rg,.slice A bs.length c]] W fun e w'=>∃ v,e= .returned (.agg #[.int .i64 fn,.int .i64 rg,v])∧Kd.R k43 43 w' W.heap.size (fun _=>True) v (runBs cur V')∧Below W.heap.size W w'):=⟨fun W hW=>by
     have h:=LiveRunW.run_calls fn rg A c cur V' W (CC.out W hW) HFC.out HV'.out;rw [←HS.out.len] at h;exact h⟩
    have HFRC:=ak (fit_run HFC.out V');have q0:wr.cell? ⟨g7,0,none⟩=some (.int .i64 fn):=(blk_cell HS.out.b7 0).trans rfl;have q1:wr.cell? ⟨g7,1,none⟩=some (.int .i64 rg):=(blk_cell HS.out.b7 1).trans rfl;have q2:wr.cell? ⟨g7,2,none⟩=some (.slice A bs.length c):=(blk_cell HS.out.b7 2).trans rfl;clear hV'
    go_wp2_with fail
    refine (CRC.out _ (Below.refl _ _)).mono ?_;rintro e w17 ⟨vc,rfl,ho17,hb17⟩;obtain ⟨Ac,cc,rfl⟩:=Kd.R_slice ho17;have HB17:=ak hb17;have RC:=ak (Kd.R_reads' ho17);clear ho17 hb17 q0 q1 q2
    go_wp2_with fail
    refine (LiveRefR.rrun_calls fn rg Ac cc cur V' _ RC.out.2.2 RC.out.2.1 HFC.out HV'.out).mono ?_;rintro e w18 ⟨vn,rfl,ho18,hb18⟩;obtain ⟨An,cn,rfl⟩:=Kd.R_slice ho18;have RN:=ak (Kd.R_reads' ho18);have HB18:=ak (below_step HB17.out hb18);clear ho18 hb18
    go_upto_region 16 with ((with_reducible refine gate_dst (N:=12) rfl ?_);refine LiveRunW.zero_event 24 #[.int .i64 0,.int .i64 0,.slice none 0 0] rfl rfl qb ?_;intro g12 w19 hg12 hAg12 hbg12;have HGg12:=ak hg12;have HAg12:=ak hAg12;have HBg12:=ak hbg12;have z0:w19.cell? ⟨g12,0,none⟩=some (.int .i64 0):=(qk hAg12 0);have z1:w19.cell? ⟨g12,1,none⟩=some (.int .i64 0):=(qk hAg12 1);have z2:w19.cell? ⟨g12,2,none⟩=some (.slice none 0 0):=(qk hAg12 2);have y0:=blk_frozen hAg12 0;have y1:=blk_frozen hAg12 1;have y2:=blk_frozen hAg12 2;clear hg12 hAg12 hbg12)
    have HXg12:Aside0 (Below w18.heap.size w18 (((w19.setCell ⟨g12,0,none⟩ (.int .i64 fn)).setCell ⟨g12,1,none⟩ (.int .i64 rg)).setCell ⟨g12,2,none⟩ (.slice An (runBs cur V').length cn))):=⟨below_set (below_set (below_set HBg12.out HGg12.out) HGg12.out) HGg12.out⟩
    have HPg12:Aside0 ((((w19.setCell ⟨g12,0,none⟩ (.int .i64 fn)).setCell ⟨g12,1,none⟩ (.int .i64 rg)).setCell ⟨g12,2,none⟩ (.slice An (runBs cur V').length cn)).heap[g12]? =some (.cells #[.int .i64 fn,.int .i64 rg,(.slice An (runBs cur V').length cn)] 24 (0,0))):=⟨blk_put (blk_put (blk_put HAg12.out 0 _ rfl) 1 _ rfl) 2 _ rfl⟩
    generalize (((w19.setCell ⟨g12,0,none⟩ (.int .i64 fn)).setCell ⟨g12,1,none⟩ (.int .i64 rg)).setCell ⟨g12,2,none⟩ (.slice An (runBs cur V').length cn))=w20 at HXg12 HPg12 ⊢;clear z0 z1 z2 y0 y1 y2 HAg12 HBg12 HGg12;have HB20:=ak (below_step HB18.out HXg12.out);have HS20:=ak (HS.out.next HB20.out);have G5':=ak ((HS20.out.below.block g5 (blk_lt G5.out)).trans G5.out);have HBD:=ak (below_step HB20.out (below_drew1 (Below.refl _ w20)));have q0:w20.cell? ⟨g7,0,none⟩=some (.int .i64 fn):=(blk_cell HS20.out.b7 0).trans rfl
    have q1:w20.cell? ⟨g7,1,none⟩=some (.int .i64 rg):=(blk_cell HS20.out.b7 1).trans rfl;have q2:w20.cell? ⟨g7,2,none⟩=some (.slice A bs.length c):=(blk_cell HS20.out.b7 2).trans rfl;have r0:w20.cell? ⟨g8,0,none⟩=some (.int .i64 fn):=(blk_cell HS20.out.b8 0).trans rfl;have r1:w20.cell? ⟨g8,1,none⟩=some (.int .i64 rg):=(blk_cell HS20.out.b8 1).trans rfl;have r2:w20.cell? ⟨g8,2,none⟩=some (.slice Aa bs.length ca):=(blk_cell HS20.out.b8 2).trans rfl;have p0:w20.cell? ⟨g5,0,none⟩=some (.int .i64 fn):=qj G5' 0
    have p1:w20.cell? ⟨g5,1,none⟩=some (.int .i64 rg):=qj G5' 1;have p2:w20.cell? ⟨g5,2,none⟩=some (.slice Aw bs.length cw):=qj G5' 2;have t0:w20.cell? ⟨g12,0,none⟩=some (.int .i64 fn):=qj HPg12 0;have t1:w20.cell? ⟨g12,1,none⟩=some (.int .i64 rg):=qj HPg12 1;have t2:w20.cell? ⟨g12,2,none⟩=some (.slice An (runBs cur V').length cn):=qj HPg12 2;have Z0:Aside0 (w20.drew.cell? ⟨g7,0,none⟩=some (.int .i64 fn)):=⟨q0⟩
    have Z1:Aside0 (w20.drew.cell? ⟨g7,1,none⟩=some (.int .i64 rg)):=⟨q1⟩
    have Z2:Aside0 (w20.drew.cell? ⟨g7,2,none⟩=some (.slice A bs.length c)):=⟨q2⟩
    have Z3:Aside0 (w20.drew.cell? ⟨g12,0,none⟩=some (.int .i64 fn)):=⟨t0⟩
    have Z4:Aside0 (w20.drew.cell? ⟨g12,1,none⟩=some (.int .i64 rg)):=⟨t1⟩
    have Z5:Aside0 (w20.drew.cell? ⟨g12,2,none⟩=some (.slice An (runBs cur V').length cn)):=⟨t2⟩
    have Z6:Aside0 (w20.drew.cell? ⟨g8,0,none⟩=some (.int .i64 fn)):=⟨r0⟩
    have Z7:Aside0 (w20.drew.cell? ⟨g8,1,none⟩=some (.int .i64 rg)):=⟨r1⟩
    have Z8:Aside0 (w20.drew.cell? ⟨g8,2,none⟩=some (.slice Aa bs.length ca)):=⟨r2⟩
    have Z9:Aside0 (w20.drew.cell? ⟨g5,0,none⟩=some (.int .i64 fn)):=⟨p0⟩
    have Z10:Aside0 (w20.drew.cell? ⟨g5,1,none⟩=some (.int .i64 rg)):=⟨p1⟩
    have Z11:Aside0 (w20.drew.cell? ⟨g5,2,none⟩=some (.slice Aw bs.length cw)):=⟨p2⟩
    clear q0 q1 q2 t0 t1 t2 r0 r1 r2 p0 p1 p2;have HB20D:Aside0 (Below w20.heap.size w20 w20.drew):=⟨below_drew1 (Below.refl _ w20)⟩
    refine start_ (n:=10) (S:=fun w'=>w'.cell? ⟨g7,0,none⟩=some (.int .i64 fn)∧w'.cell? ⟨g7,1,none⟩=some (.int .i64 rg)∧w'.cell? ⟨g7,2,none⟩=some (.slice A bs.length c)∧w'.cell? ⟨g12,0,none⟩=some (.int .i64 fn)∧w'.cell? ⟨g12,1,none⟩=some (.int .i64 rg)∧w'.cell? ⟨g12,2,none⟩=some (.slice An (runBs cur V').length cn)∧w'.cell? ⟨g8,0,none⟩=some (.int .i64 fn)∧w'.cell? ⟨g8,1,none⟩=some (.int .i64 rg)∧w'.cell? ⟨g8,2,none⟩=some (.slice Aa bs.length ca)∧w'.cell? ⟨g5,0,none⟩=some (.int .i64 fn)∧w'.cell? ⟨g5,1,none⟩=some (.int .i64 rg)∧w'.cell? ⟨g5,2,none⟩=some (.slice Aw bs.length cw)) (ds:=[]) (bz 10 0) (by kernel_rfl) rfl rfl ⟨Z0.out,Z1.out,Z2.out,Z3.out,Z4.out,Z5.out,Z6.out,Z7.out,Z8.out,Z9.out,Z10.out,Z11.out⟩ (fun hHeld=>?_)
    refine with_tabW r4_16_tab r4_16_bits (fun HT_ HW_=>?_);generalize World.drew w20=W2 at HBD HB20D Z0 Z1 Z2 Z3 Z4 Z5 Z6 Z7 Z8 Z9 Z10 Z11 hHeld ⊢;refine tk 0 98 10 1 ?_;refine tq 2 100 10 5 ?_;refine one_ (i:=1) (N:=some 99) (bz 10 3) rfl rfl (one_of HT_.out (by kernel_rfl)) (by decide) (fun K hK=>?_);refine goes_ Try.func16 (by kernel_rfl) rfl #[.agg #[.int .i64 fn,.int .i64 rg,.slice A bs.length c]] (by rfl) rfl rfl (by (try simp only [List.map_toArray,List.map_cons,List.map_nil]);first |done |rfl) ?_;refine (CRUN.out W2 HBD.out).mono ?_;rintro e w21 ⟨v,rfl,ho,hb0⟩
    refine ⟨_,rfl,?_⟩;obtain ⟨Ar,cr,rfl⟩:=Kd.R_slice ho;have RR:=ak (Kd.R_reads' ho);have HB21:=ak (below_step HXg12.out (below_step HB20D.out hb0));have X21:=ak hb0;clear ho hb0;refine hK.out _ _ ⟨pw_cell_below X21.out Z0.out,pw_cell_below X21.out Z1.out,pw_cell_below X21.out Z2.out,pw_cell_below X21.out Z3.out,pw_cell_below X21.out Z4.out,pw_cell_below X21.out Z5.out,pw_cell_below X21.out Z6.out,pw_cell_below X21.out Z7.out,pw_cell_below X21.out Z8.out,pw_cell_below X21.out Z9.out,pw_cell_below X21.out Z10.out,pw_cell_below X21.out Z11.out⟩ (fun hHeld=>?_);clear hK K
    refine norm_ (a':=?_) ?_ ?_;rotate_left
    ·show Act.put _ (some 99) _=_
     simp only [Act.put,sA,sB,sC,i64_w,i32_w];rfl
    refine one_ (i:=3) (N:=some 101) (bz 10 4) rfl rfl (one_of HT_.out (by kernel_rfl)) (by decide) (fun K hK=>?_);refine goes_ Try.func17 (by kernel_rfl) rfl #[.agg #[.int .i64 fn,.int .i64 rg,.slice Ar (runBs cur V').length cr],.agg #[.int .i64 fn,.int .i64 rg,.slice An (runBs cur V').length cn]] (by rfl) rfl rfl (by (try simp only [List.map_toArray,List.map_cons,List.map_nil]);first |done |rfl) ?_;refine (LiveEqR.regs17_calls fn rg (runBs cur V') Ar An cr cn _ RR.out.2.2 (Kd.C_below RN.out.2.2 HB21.out)).mono ?_;rintro e w22 ⟨rfl,hb0⟩;refine ⟨_,rfl,?_⟩
    have HB22:=ak (below_step HB18.out (below_step HB21.out hb0));have X22:=ak (below_step X21.out hb0);clear hb0;refine hK.out _ _ ⟨pw_cell_below X22.out Z0.out,pw_cell_below X22.out Z1.out,pw_cell_below X22.out Z2.out,pw_cell_below X22.out Z3.out,pw_cell_below X22.out Z4.out,pw_cell_below X22.out Z5.out,pw_cell_below X22.out Z6.out,pw_cell_below X22.out Z7.out,pw_cell_below X22.out Z8.out,pw_cell_below X22.out Z9.out,pw_cell_below X22.out Z10.out,pw_cell_below X22.out Z11.out⟩ (fun hHeld=>?_);clear hK K;refine norm_ (a':=?_) ?_ ?_;rotate_left
    ·show Act.put _ (some 101) _=_
     simp only [Act.put,sA,sB,sC,i64_w,i32_w];rfl
    refine pu 4 102 10 5 ?_;refine tk 5 103 10 6 ?_;refine tk 6 104 10 7 ?_;refine one_ (i:=7) (N:=some 105) (bz 10 8) rfl rfl (one_of HT_.out (by kernel_rfl)) (by decide) (fun K hK=>?_);refine goes_ Try.func17 (by kernel_rfl) rfl #[.agg #[.int .i64 fn,.int .i64 rg,.slice Aa bs.length ca],.agg #[.int .i64 fn,.int .i64 rg,.slice Aw bs.length cw]] (by rfl) rfl rfl (by (try simp only [List.map_toArray,List.map_cons,List.map_nil]);first |done |rfl) ?_
    refine (TR.out _ Aa Aw ca cw (Kd.C_below HCA.out.1 HB22.out) HCA.out.2 (Kd.C_below CW5.out.1 (below_step HS.out.below HB22.out)) CW5.out.2).mono ?_;rintro e w23 ⟨rfl,hb0⟩;refine ⟨_,rfl,?_⟩;have HB23:=ak (below_step HB22.out hb0);have X23:=ak (below_step X22.out hb0);clear hb0
    refine hK.out _ _ ⟨pw_cell_below X23.out Z0.out,pw_cell_below X23.out Z1.out,pw_cell_below X23.out Z2.out,pw_cell_below X23.out Z3.out,pw_cell_below X23.out Z4.out,pw_cell_below X23.out Z5.out,pw_cell_below X23.out Z6.out,pw_cell_below X23.out Z7.out,pw_cell_below X23.out Z8.out,pw_cell_below X23.out Z9.out,pw_cell_below X23.out Z10.out,pw_cell_below X23.out Z11.out⟩ (fun hHeld=>?_);clear hK K;refine norm_ (a':=?_) ?_ ?_;rotate_left
    ·show Act.put _ (some 105) _=_
     simp only [Act.put,sA,sB,sC,i64_w,i32_w];rfl
    refine pu 8 106 10 9 ?_;refine pu 9 4 10 10 ?_;refine done_ (done_of HT_.out (by kernel_rfl)) ?_
    go_wp2_with fail
    go_ret
    exact ⟨rfl,below_step HB5.out (below_step HS.out.below HB23.out)⟩
end Go.Proofs.Ytklknkfoafdgpaa.LiveRunLaw
