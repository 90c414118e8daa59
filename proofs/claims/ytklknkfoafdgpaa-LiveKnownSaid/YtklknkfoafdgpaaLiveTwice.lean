import Derived.Test.YtklknkfoafdgpaaLiveM
import Derived.Test.YtklknkfoafdgpaaOpen
import Derived.Deep.RegionWith
import Derived.Deep.DeepCutAuto
import Derived.Test.YtklknkfoafdgpaaLiveEqR
namespace Go.Proofs.Ytklknkfoafdgpaa.LiveTwice
set_option maxHeartbeats 8000000
set_option maxRecDepth 100000
open RowKit YtklknkfoafdgpaaW.PrintWords YtklknkfoafdgpaaW.PrintLast YtklknkfoafdgpaaW.PrintMore
open PLiveKnown LiveT LiveB LiveSet LiveAhead LiveEnd LiveInv LiveSettled LiveCopied LiveAft LiveRunP LiveRunW LiveSame LiveKn LiveShown LiveFit LiveTaken
set_option linter.unusedVariables false
set_option linter.unusedSimpArgs false
theorem lfp_runBs {bs:List S43} {V:Nat→RS} (hV:Lfp (codeOf bs) V):Lfp (codeOf (runBs bs V)) V:=by
 have h:=lfp_run iOf hV;have he:codeOf (runBs bs V)=LiveT.abs iOf (LiveT.run iOf V (bs.map fun b=>(b.f1,b.f2))):=by
  simp only [codeOf,runBs,LiveT.run,List.map_map,List.length_map];rfl
 rw [he];exact h
theorem runBs_runBs (bs:List S43) (V:Nat→RS):runBs (runBs bs V) V=runBs bs V:=by
 simp only [runBs,List.map_map,List.length_map];refine List.map_congr_left fun b _=>?_
 simp only [Function.comp_apply,runB,strip_strip]
def kOf (fl:List Bool) (i:Nat):Nat:=((fl.take i).filter fun t=> !t).length
theorem kOf_succ {fl:List Bool} {i:Nat} {t:Bool} (h:fl[i]? =some t):kOf fl (i+1)=kOf fl i+if t=true then 0 else 1:=by
 unfold kOf;rw [List.take_add_one,h];cases t<;>simp
theorem kept_count (l:List S47) (S:RS):((outs iOf l S).filter fun t=> !t).length=(strip iOf l S).length:=by
 induction l with
 |nil=>rfl
 |cons x l ih =>
  simp only [outs,strip];cases h:idle (iOf x) (back (l.map iOf) S)<;>simp [ih]
theorem kOf_le (fl:List Bool) (i:Nat):kOf fl i≤i:=by
 unfold kOf;exact Nat.le_trans (List.length_filter_le _ _) (by rw [List.length_take];omega)
theorem after_run (bs:List S43) (V:Nat→RS) (b i:Nat) (hb:b<bs.length) (hi:i<(rd_T43 bs b).f1.length) (h:(outs iOf (rd_T43 bs b).f1 (endd bs.length V (rd_T43 bs b).f2))[i]? =some false) :
  after (runBs bs V) V b (kOf (outs iOf (rd_T43 bs b).f1 (endd bs.length V (rd_T43 bs b).f2)) i:Nat)=after bs V b i:=by
 have hrb:rd_T43 (runBs bs V) (b:Nat)=runB bs.length V (rd_T43 bs b):=rd_run bs V b hb;generalize hB:rd_T43 bs (b:Int)=B at *;obtain ⟨pc,l,nx⟩:=B;simp only at hi h ⊢;have hl1:(runB bs.length V ⟨pc,l,nx⟩).f1=strip iOf l (endd bs.length V nx):=rfl;have hl2:(runB bs.length V ⟨pc,l,nx⟩).f2=nx:=rfl;have hdrop:l.drop i=l[i]::l.drop (i+1):=List.drop_eq_getElem_cons hi;generalize hE:endd bs.length V nx=E at *
 have hsplit:outs iOf l E=outs iOf (l.take i) (back ((l.drop i).map iOf) E)++outs iOf (l.drop i) E:=by rw [←outs_app,List.take_append_drop]
 have hs2:strip iOf l E=strip iOf (l.take i) (back ((l.drop i).map iOf) E)++strip iOf (l.drop i) E:=by rw [←strip_app,List.take_append_drop]
 have hlen:(outs iOf (l.take i) (back ((l.drop i).map iOf) E)).length=i:=by rw [outs_length,List.length_take];omega
 have hk:kOf (outs iOf l E) i=(strip iOf (l.take i) (back ((l.drop i).map iOf) E)).length:=by
  unfold kOf;rw [hsplit,List.take_left' hlen,kept_count]
 have hid:idle (iOf l[i]) (back ((l.drop (i+1)).map iOf) E)=false:=by
  rw [hsplit,List.getElem?_append_right (by omega),hlen,Nat.sub_self,hdrop] at h
  simpa [outs] using h
 have hs3:strip iOf (l.drop i) E=l[i]::strip iOf (l.drop (i+1)) E:=by
  rw [hdrop];simp only [strip,hid];rfl
 rw [hs3] at hs2;have hkl:kOf (outs iOf l E) i<(strip iOf l E).length:=by
  rw [hk,hs2,List.length_append,List.length_cons];omega
 have hd:(strip iOf l E).drop (kOf (outs iOf l E) i+1)=strip iOf (l.drop (i+1)) E:=by
  rw [hs2,hk,List.drop_append];rw [show (strip iOf (l.take i) (back ((l.drop i).map iOf) E)).length+1-(strip iOf (l.take i) (back ((l.drop i).map iOf) E)).length=1 by omega];rw [List.drop_eq_nil_of_le (by omega)];rfl
 unfold after;rw [if_pos ⟨by omega,by rw [runBs_length];omega,by omega,by rw [hrb,hl1];omega⟩,if_pos ⟨by omega,by omega,by omega,by rw [hB];show (i:Int)<(l.length:Int);omega⟩]
 congr 1
 unfold behind;simp only [Int.toNat_natCast];rw [hrb,hB,hl1,hl2,runBs_length];simp only
 try rw [hE]
 rw [hd,back_strip]
theorem taken_calls (n:Nat) (V:Nat→RS) (B:S43) (hl:B.f1.length≤281474976710656) (h2:B.f2.length≤9223372036854775807) (hf:∀ i,i<B.f1.length→Fit47 (rd_T47 B.f1 (i:Nat))) (A1 A2 A3 A4:Option Addr) (c1 c2 c3 c4:Nat) (w:World)
  (r1:Kd.C k47 w A1 B.f1.length B.f1) (l1:B.f1.length≤c1) (r2:Kd.C (Kd.int .i64) w A2 B.f2.length B.f2) (l2:B.f2.length≤c2) (r3:Kd.C k47 w A3 (runB n V B).f1.length (runB n V B).f1) (l3:(runB n V B).f1.length≤c3) (r4:Kd.C (Kd.int .i64) w A4 (runB n V B).f2.length (runB n V B).f2) (l4:(runB n V B).f2.length≤c4) :
  Calls Try.prog 23 #[.agg #[.int .i64 B.f0,.slice A1 B.f1.length c1,.slice A2 B.f2.length c2],.agg #[.int .i64 (runB n V B).f0,.slice A3 (runB n V B).f1.length c3,.slice A4 (runB n V B).f2.length c4]] w fun e w'=>∃ g c,e= .returned (.tuple #[.slice g B.f1.length c,.bool true])∧Kd.C Kd.bool w' g B.f1.length (outs iOf B.f1 (endd n V B.f2))∧Below w.heap.size w w':=by
 obtain ⟨k,hk⟩:=taken_ev n V B hl h2 hf;refine (ztaken.calls k B.f0 A1 c1 B.f1 A2 c2 B.f2 (runB n V B).f0 A3 c3 (runB n V B).f1 A4 c4 (runB n V B).f2 _ true w r1 l1 r2 l2 r3 l3 r4 l4 hk).mono ?_;rintro e w' ⟨v,rfl,ho,hb⟩;have hlen:=outs_length iOf B.f1 (endd n V B.f2);obtain ⟨g,c,hv⟩:=Kd.R_slice ho;subst hv;have hc:=(Kd.R_reads' ho).2.2;rw [hlen] at hc;exact ⟨g,c,by rw [hlen],hc,hb⟩
theorem twice_calls (fn rg:Int) (Ab:Option Addr) (cb:Nat) (bs:List S43) (V:Nat→RS) (w:World) (hC:Kd.C k43 w Ab bs.length bs) (hcb:bs.length≤cb) (hf:FitC bs) (hV:Lfp (codeOf bs) V) :
  Calls Try.prog 8 #[.agg #[.int .i64 fn,.int .i64 rg,.slice Ab bs.length cb]] w fun e w'=>e= .returned (.bool true)∧Below w.heap.size w w':=by
 have HC:=ak hC;have HCB:=ak hcb;have HFT:=ak hf;have HV:=ak hV;have HN:Aside0 (bs.length*64≤281474976710656):=⟨by have:=hf.blocks;omega⟩
 have HL:=ak (runBs_length bs V);clear hC hcb hf hV
 go_enter Try.func8,Try.ntmps8
 go_wp2_with (first
  |((with_reducible refine gate_dst (N:=1) rfl ?_);refine zero_event 24 #[.int .i64 fn,.int .i64 rg,.slice Ab bs.length cb] rfl rfl qb ?_;intro g1 w1 hg1 hA1 hb1;have HG1:=ak hg1;have HA1:=ak hA1;have HB1:=ak hb1;have u0:w1.cell? ⟨g1,0,none⟩=some (.int .i64 fn):=(qk hA1 0);have u1:w1.cell? ⟨g1,1,none⟩=some (.int .i64 rg):=(qk hA1 1);have u2:w1.cell? ⟨g1,2,none⟩=some (.slice Ab bs.length cb):=(qk hA1 2);clear hg1 hA1 hb1)
  |(go_at_call 16;refine (run_calls fn rg Ab cb bs V _ (Kd.C_below HC.out HB1.out) HFT.out HV.out).mono ?_;rintro e w2 ⟨v,rfl,ho,hb2⟩;obtain ⟨Ar,cr,hv⟩:=Kd.R_slice ho;rw [HL.out] at hv;subst hv;have HR2:=ak ho;have HB2:=ak (below_step HB1.out hb2);have HA12:=ak ((hb2.block g1 (blk_lt HA1.out)).trans HA1.out);replace u0:=pw_cell_below hb2 u0;replace u1:=pw_cell_below hb2 u1;replace u2:=pw_cell_below hb2 u2;clear ho hb2)
  |((with_reducible refine gate_dst (N:=3) rfl ?_);refine zero_event 24 #[.int .i64 0,.int .i64 0,.slice none 0 0] rfl rfl qb ?_;intro g3 w3 hg3 hA3 hb3;have HG3:=ak hg3;have HA3:=ak hA3;have HB3:=ak (below_step HB2.out hb3);have HB23:=ak hb3;have HA13:=ak ((hb3.block g1 (blk_lt HA12.out)).trans HA12.out);have z0:w3.cell? ⟨g3,0,none⟩=some (.int .i64 0):=(qk hA3 0);have z1:w3.cell? ⟨g3,1,none⟩=some (.int .i64 0):=(qk hA3 1);have z2:w3.cell? ⟨g3,2,none⟩=some (.slice none 0 0):=(qk hA3 2);have y0:=blk_frozen hA3 0;have y1:=blk_frozen hA3 1;have y2:=blk_frozen hA3 2;clear hg3 hA3 hb3))
 have HX4:Aside0 (Below w.heap.size w (((w3.setCell ⟨g3,0,none⟩ (.int .i64 fn)).setCell ⟨g3,1,none⟩ (.int .i64 rg)).setCell ⟨g3,2,none⟩ (.slice Ar bs.length cr))):=⟨by
  have l3:w.heap.size≤g3:=Nat.le_trans HB2.out.size HG3.out;exact below_set (below_set (below_set HB3.out l3) l3) l3⟩
 have HX24:Aside0 (Below w2.heap.size w2 (((w3.setCell ⟨g3,0,none⟩ (.int .i64 fn)).setCell ⟨g3,1,none⟩ (.int .i64 rg)).setCell ⟨g3,2,none⟩ (.slice Ar bs.length cr))):=⟨below_set (below_set (below_set HB23.out HG3.out) HG3.out) HG3.out⟩
 have HP3:Aside0 ((((w3.setCell ⟨g3,0,none⟩ (.int .i64 fn)).setCell ⟨g3,1,none⟩ (.int .i64 rg)).setCell ⟨g3,2,none⟩ (.slice Ar bs.length cr)).heap[g3]? =some (.cells #[.int .i64 fn,.int .i64 rg,.slice Ar bs.length cr] 24 (0,0))):=⟨blk_put (blk_put (blk_put HA3.out 0 _ rfl) 1 _ rfl) 2 _ rfl⟩
 generalize (((w3.setCell ⟨g3,0,none⟩ (.int .i64 fn)).setCell ⟨g3,1,none⟩ (.int .i64 rg)).setCell ⟨g3,2,none⟩ (.slice Ar bs.length cr))=w4 at HX4 HX24 HP3 ⊢;have HP1:=ak ((HX24.out.block g1 (blk_lt HA12.out)).trans HA12.out);have HC4:=ak (Kd.C_below HC.out HX4.out);have HD4:Aside0 (Kd.C k43 w4 Ar bs.length (runBs bs V)):=⟨by have h:=(Kd.R_reads' HR2.out).2.2;rw [HL.out] at h;exact Kd.C_below h HX24.out⟩
 have HCR:Aside0 (bs.length≤cr):=⟨(Kd.R_reads' HR2.out).2.1⟩
 have HRUN:Aside0 (∀ W,Below w4.heap.size w4 W→Calls Try.prog 16 #[.agg #[.int .i64 fn,.int .i64 rg,.slice Ar bs.length cr]] W fun e w'=>∃ Aq cq,e= .returned (.agg #[.int .i64 fn,.int .i64 rg,.slice Aq bs.length cq])∧Kd.C k43 w' Aq bs.length (runBs bs V)∧bs.length≤cq∧Below W.heap.size W w'):=⟨fun W hW=>by
  have h:=run_calls fn rg Ar cr (runBs bs V) V W (by rw [HL.out];exact Kd.C_below HD4.out hW) (fit_run HFT.out V) (lfp_runBs HV.out);rw [runBs_runBs,HL.out] at h;refine h.mono ?_;rintro e w' ⟨v,rfl,ho,hb⟩;obtain ⟨Aq,cq,hv⟩:=Kd.R_slice ho;rw [HL.out] at hv;subst hv;have h2:=Kd.R_reads' ho;rw [HL.out] at h2;exact ⟨Aq,cq,rfl,h2.2.2,h2.2.1,hb⟩⟩
 have HREGS:Aside0 (∀ W Aq cq,Kd.C k43 W Aq bs.length (runBs bs V)→bs.length≤cq→Below w4.heap.size w4 W→Calls Try.prog 17 #[.agg #[.int .i64 fn,.int .i64 rg,.slice Aq bs.length cq],.agg #[.int .i64 fn,.int .i64 rg,.slice Ar bs.length cr]] W fun e w'=>e= .returned (.bool true)∧Below W.heap.size W w'):=⟨fun W Aq cq h1 h2 hW=>by
  have h:=LiveEqR.regs17_calls fn rg (runBs bs V) Aq Ar cq cr W;rw [HL.out] at h;exact h h1 (Kd.C_below HD4.out hW)⟩
 clear HG1 HA1 HB1 HR2 HB2 HA12 u0 u1 u2 HG3 HA3 HB3 HB23 HA13 z0 z1 z2 y0 y1 y2 HX24;have u0:w4.cell? ⟨g1,0,none⟩=some (.int .i64 fn):=qj HP1 0;have u1:w4.cell? ⟨g1,1,none⟩=some (.int .i64 rg):=qj HP1 1;have u2:w4.cell? ⟨g1,2,none⟩=some (.slice Ab bs.length cb):=qj HP1 2;have t0:w4.cell? ⟨g3,0,none⟩=some (.int .i64 fn):=qj HP3 0;have t1:w4.cell? ⟨g3,1,none⟩=some (.int .i64 rg):=qj HP3 1;have t2:w4.cell? ⟨g3,2,none⟩=some (.slice Ar bs.length cr):=qj HP3 2
 go_cut [24] (fun t wx=>t= .bool false∧Aside0 (Below w4.heap.size w4 wx))
 case first =>
  go_region_with (first
   |(go_at_call 16;refine (HRUN.out _ (below_drew1 (Below.refl _ w4))).mono ?_;rintro e w9 ⟨Aq,cq,rfl,hq,hcq,hb0⟩;have hb:=below_step (below_drew1 (Below.refl _ w4)) hb0;have HQ:=ak hq;have HCQ:=ak hcq;have HB9:=ak hb;replace u2:=pw_cell_below hb u2;replace t0:=pw_cell_below hb t0;replace t1:=pw_cell_below hb t1;replace t2:=pw_cell_below hb t2;clear hq hcq hb hb0)
   |(go_at_call 17;refine (HREGS.out _ Aq cq HQ.out HCQ.out HB9.out).mono ?_;rintro e w10 ⟨rfl,hb0⟩;have HB10:=ak (below_step HB9.out hb0);replace u2:=pw_cell_below hb0 u2;replace t0:=pw_cell_below hb0 t0;replace t1:=pw_cell_below hb0 t1;replace t2:=pw_cell_below hb0 t2;clear hb0))
  all_goals (go_wp2;go_meet;exact ⟨rfl,HB10⟩)
 obtain ⟨rfl,H0⟩:=hcut;clear u0 u1 u2 t0 t1 t2 HRUN HREGS
 go_wp2_with fail
 go_loopw [4] (fun v4 wi=>∃ (b:Nat),b≤bs.length∧v4= .int .i64 b∧Aside0 (Below w4.heap.size w4 wi)) (fun v4 _=>bs.length-(intOf v4).toNat)
 case atStart=>exact ⟨0,by omega,rfl,H0⟩
 case round =>
  clear H0;obtain ⟨b,hb,rfl,HB⟩:=hrel;have u2:=pw_cell_below HB.out (qj HP1 2:w4.cell? ⟨g1,2,none⟩=some (.slice Ab bs.length cb))
  by_cases hlt:b<bs.length
  ·obtain ⟨ad,A1,c1,A2,c2,e,hx0,hx1,hx2,l1,q1,l2,q2⟩:=rd_block HC4.out HB.out b hlt;subst e;obtain ⟨ar,A3,c3,A4,c4,e,hy0,hy1,hy2,l3,q3,l4,q4⟩:=rd_block HD4.out HB.out b hlt;subst e;have t2:=pw_cell_below HB.out (qj HP3 2:w4.cell? ⟨g3,2,none⟩=some (.slice (some ar) bs.length cr));have HFI:=ak (HFT.out.each b hlt);have HI:=ak (HFT.out.ins b hlt);have HNX:=ak (HFT.out.next b hlt)
   have HAR:Aside0 (∀ i:Nat,i<(rd_T43 bs b).f1.length→(outs iOf (rd_T43 bs b).f1 (endd bs.length V (rd_T43 bs b).f2))[i]? =some false→after (runBs bs V) V b (kOf (outs iOf (rd_T43 bs b).f1 (endd bs.length V (rd_T43 bs b).f2)) i:Nat)=after bs V b i):=⟨fun i hi h=>after_run bs V b i hlt hi h⟩
   rw [rd_run bs V b hlt] at hy0 hy1 hy2 l3 q3 l4 q4;have hbi:(b:Int)<bs.length:=by omega
   have HTK:Aside0 (∀ W,Below w4.heap.size w4 W→Calls Try.prog 23 #[.agg #[.int .i64 (rd_T43 bs b).f0,.slice A1 (rd_T43 bs b).f1.length c1,.slice A2 (rd_T43 bs b).f2.length c2],.agg #[.int .i64 (runB bs.length V (rd_T43 bs b)).f0,.slice A3 (runB bs.length V (rd_T43 bs b)).f1.length c3,.slice A4 (runB bs.length V (rd_T43 bs b)).f2.length c4]] W fun e w'=>∃ g c,e= .returned (.tuple #[.slice g (rd_T43 bs b).f1.length c,.bool true])∧Kd.C Kd.bool w' g (rd_T43 bs b).f1.length (outs iOf (rd_T43 bs b).f1 (endd bs.length V (rd_T43 bs b).f2))∧Below W.heap.size W w'):=⟨fun W hW =>
    taken_calls bs.length V (rd_T43 bs b) (by have:=HI.out;omega) (by have:=HNX.out;omega) HFI.out A1 A2 A3 A4 c1 c2 c3 c4 W (Kd.C_below q1 hW) l1 (Kd.C_below q2 hW) l2 (Kd.C_below q3 hW) l3 (Kd.C_below q4 hW) l4⟩
   have hmx:(rd_T43 bs b).f1.length≤9223372036854775807:=by have:=HI.out;omega
   have HFL:=ak (outs_length iOf (rd_T43 bs b).f1 (endd bs.length V (rd_T43 bs b).f2));clear l1 q1 l2 q2 l3 q3 l4 q4 HFI HI HNX;generalize outs iOf (rd_T43 bs b).f1 (endd bs.length V (rd_T43 bs b).f2)=fl at HTK HAR HFL;generalize runB bs.length V (rd_T43 bs b)=D at hy0 hy1 hy2 HTK;generalize rd_T43 bs b=B at hx0 hx1 hx2 HTK HAR HFL hmx;obtain ⟨pc,ins,nx⟩:=B;obtain ⟨dpc,dins,dnx⟩:=D;simp only at hx0 hx1 hx2 hy0 hy1 hy2 hmx
   have HTK:Aside0 (∀ W,Below w4.heap.size w4 W→Calls Try.prog 23 #[.agg #[.int .i64 pc,.slice A1 ins.length c1,.slice A2 nx.length c2],.agg #[.int .i64 dpc,.slice A3 dins.length c3,.slice A4 dnx.length c4]] W fun e w'=>∃ g c,e= .returned (.tuple #[.slice g ins.length c,.bool true])∧Kd.C Kd.bool w' g ins.length fl∧Below W.heap.size W w'):=⟨HTK.out⟩
   have HAR:Aside0 (∀ i:Nat,i<ins.length→fl[i]? =some false→after (runBs bs V) V b (kOf fl i:Nat)=after bs V b i):=⟨HAR.out⟩
   have HFL:Aside0 (fl.length=ins.length):=⟨HFL.out⟩
   have HBL:=ak hlt;clear hlt
   go_wp2_with fail
   go_cut [5,6] (fun t s wx=>(∃ g c,t= .slice g ins.length c∧Aside0 (Kd.C Kd.bool wx g ins.length fl))∧s= .bool true∧Aside0 (Below w4.heap.size w4 wx))
   case first =>
    go_region_with (go_at_call 23;refine (HTK.out _ (below_drew1 HB.out)).mono ?_;rintro e w5 ⟨g5,c5,rfl,h5,hb0⟩;have HB5:=ak (below_step (below_drew1 HB.out) hb0);have HF5:=ak h5;clear hb0 h5)
    all_goals (go_wp2;go_meet;exact ⟨⟨_,_,rfl,HF5⟩,rfl,HB5⟩)
   obtain ⟨⟨g5,c5,rfl,HF5⟩,rfl,HB5⟩:=hcut;clear HTK hx0 hx1 hx2 hy0 hy1 hy2 u2 t2 hbi HB
   go_wp2_with fail
   have HAF2:Aside0 (∀ W (k:Int),Below w4.heap.size w4 W→Calls Try.prog 11 #[.agg #[.int .i64 fn,.int .i64 rg,.slice (some ar) bs.length cr],.int .i64 b,.int .i64 k] W fun e w'=>∃ v,e= .returned v∧Kd.R (Kd.int .i64) 3 w' W.heap.size (fun _=>True) v (after (runBs bs V) V b k)∧Below W.heap.size W w'):=⟨fun W k hW=>by
    have h:=after_calls fn rg (some ar) cr (runBs bs V) V b k W (by rw [HL.out];exact Kd.C_below HD4.out hW) (by rw [HL.out];exact HN.out) (lfp_runBs HV.out);rw [HL.out] at h;exact h⟩
   have HAF1:Aside0 (∀ W (k:Int),Below w4.heap.size w4 W→Calls Try.prog 11 #[.agg #[.int .i64 fn,.int .i64 rg,.slice (some ad) bs.length cb],.int .i64 b,.int .i64 k] W fun e w'=>∃ v,e= .returned v∧Kd.R (Kd.int .i64) 3 w' W.heap.size (fun _=>True) v (after bs V b k)∧Below W.heap.size W w'):=⟨fun W k hW=>after_calls fn rg (some ad) cb bs V b k W (Kd.C_below HC4.out hW) HN.out HV.out⟩
   have H0:=ak (Below.refl wc.heap.size wc)
   go_loopw [7,8] (fun v7 v8 wi=>∃ (i k:Nat),i≤ins.length∧v7= .int .i64 k∧v8= .int .i64 i∧Aside0 (kOf fl i=k)∧Aside0 (Below wc.heap.size wc wi)) (fun _ v8 _=>ins.length-(intOf v8).toNat)
   case atStart=>exact ⟨0,0,by omega,rfl,rfl,⟨rfl⟩,H0⟩
   case round =>
    clear H0;obtain ⟨i,k,hi,rfl,rfl,HK,HB6⟩:=hrel;have hki:k≤i:=by have:=kOf_le fl i;have:=HK.out;omega
    by_cases hlt:i<ins.length
    ·obtain ⟨ag,e,hx⟩:=Kd.at_bool HF5.out (i:Int) (by omega) (by omega);subst e;replace hx:=pw_cell_below HB6.out hx;simp only [Int.toNat_natCast] at hx;have hif:i<fl.length:=by have:=HFL.out;omega
     have hrd:rdOf false fl (i:Int)=fl[i]:=by simp [rdOf,List.getD_eq_getElem?_getD,hif]
     have hfi:fl[i]? =some fl[i]:=List.getElem?_eq_getElem hif;rw [hrd] at hx;generalize fl[i]=t at hx hfi;clear hrd;have HFI:=ak hfi;clear hfi hif;have hii:(i:Int)<ins.length:=by omega
     cases t with
     |true =>
      go_wp2_with fail
      go_roundw
      case rel=>exact ⟨i+1,k,by omega,rfl,by go_num,⟨by rw [kOf_succ HFI.out,HK.out];rfl⟩,HB6⟩
      case measure=>simp [intOf];omega
     |false =>
      go_wp2_with fail
      have HX6:=ak (below_step HB5.out HB6.out);have u0:=pw_cell_below HX6.out (qj HP1 0:w4.cell? ⟨g1,0,none⟩=some (.int .i64 fn));have u1:=pw_cell_below HX6.out (qj HP1 1:w4.cell? ⟨g1,1,none⟩=some (.int .i64 rg));have u2:=pw_cell_below HX6.out (qj HP1 2:w4.cell? ⟨g1,2,none⟩=some (.slice (some ad) bs.length cb));have t0:=pw_cell_below HX6.out (qj HP3 0:w4.cell? ⟨g3,0,none⟩=some (.int .i64 fn));have t1:=pw_cell_below HX6.out (qj HP3 1:w4.cell? ⟨g3,1,none⟩=some (.int .i64 rg))
      have t2:=pw_cell_below HX6.out (qj HP3 2:w4.cell? ⟨g3,2,none⟩=some (.slice (some ar) bs.length cr));have HEQ:Aside0 (after (runBs bs V) V b k=after bs V b i):=⟨by rw [←HK.out];exact HAR.out i (by omega) HFI.out⟩
      have HLT:=ak hlt;clear hlt hx hii
      go_cut [67] (fun t wx=>t= .bool false∧Aside0 (Below wr.heap.size wr wx))
      case first =>
       go_region_with (first
        |(go_at_call 11;have hz:=K1.out;clear hz;refine (HAF2.out _ k (below_step (below_drew1 HX6.out) HB7.out)).mono ?_;rw [HEQ.out];rintro e w8 ⟨v8,rfl,ho,hb0⟩;obtain ⟨a8,c8,rfl⟩:=Kd.R_slice ho;have K2:=ak ho;have HB8:=ak hb0;clear ho hb0)
        |(go_at_call 11;refine (HAF1.out _ i (below_drew1 HX6.out)).mono ?_;rintro e w7 ⟨v7,rfl,ho,hb0⟩;obtain ⟨a7,c7,rfl⟩:=Kd.R_slice ho;have K1:=ak ho;have HB7:=ak hb0;(try replace t0:=pw_cell_below (below_step (below_drew1 (Below.refl _ wr)) hb0) t0);(try replace t1:=pw_cell_below (below_step (below_drew1 (Below.refl _ wr)) hb0) t1);(try replace t2:=pw_cell_below (below_step (below_drew1 (Below.refl _ wr)) hb0) t2);(try replace u0:=pw_cell_below (below_step (below_drew1 (Below.refl _ wr)) hb0) u0);(try replace u1:=pw_cell_below (below_step (below_drew1 (Below.refl _ wr)) hb0) u1);(try replace u2:=pw_cell_below (below_step (below_drew1 (Below.refl _ wr)) hb0) u2);clear ho hb0)
        |(go_at_call 12;refine (ints_calls (after bs V b i) _ _ _ _ _ (Kd.C_below (Kd.R_reads' K1.out).2.2 HB8.out) (Kd.R_reads' K1.out).2.1 (Kd.R_reads' K2.out).2.2 (Kd.R_reads' K2.out).2.1).mono ?_;rintro e w9 ⟨rfl,hb0⟩;have HB9:=ak (below_step (below_step (below_step (below_drew1 (Below.refl _ wr)) HB7.out) HB8.out) hb0);clear hb0))
       all_goals (go_wp2;go_meet;exact ⟨rfl,HB9⟩)
      obtain ⟨rfl,HB9⟩:=hcut;have hlt:=HLT.out
      go_wp2_with fail
      go_roundw
      case rel=>exact ⟨i+1,k+1,by omega,by go_num,by go_num,⟨by rw [kOf_succ HFI.out,HK.out];rfl⟩,⟨below_step HB6.out HB9.out⟩⟩
      case measure=>simp [intOf];omega
    ·obtain rfl:i=ins.length:=by omega
     have hbl:=HBL.out;have hbm:bs.length≤9223372036854775807:=by have:=HN.out;omega
     go_wp2_with fail
     go_roundw
     case rel=>exact ⟨b+1,by omega,by go_num,⟨below_step HB5.out HB6.out⟩⟩
     case measure=>simp [intOf];omega
  ·obtain rfl:b=bs.length:=by omega
   go_wp2_with (go_at_call 21;refine (Go.Proofs.Ytklknkfoafdgpaa.LiveShown2.shown_calls _).mono ?_;rintro e w5 ⟨rfl,hb5⟩;have HB5:=ak (below_step (below_step HX4.out HB.out) hb5);clear hb5)
   go_ret
   exact ⟨rfl,HB5.out⟩
end Go.Proofs.Ytklknkfoafdgpaa.LiveTwice
