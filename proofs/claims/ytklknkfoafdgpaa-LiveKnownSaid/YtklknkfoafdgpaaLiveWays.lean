import Derived.Test.YtklknkfoafdgpaaLiveMet
import Derived.Test.YtklknkfoafdgpaaOpen
import Derived.Deep.RegionWith
import Derived.Deep.DeepCutAuto
import Derived.Deep.QuietTactic
import Derived.BigQuiet
namespace Go.Proofs.Ytklknkfoafdgpaa.LiveWays
set_option maxHeartbeats 8000000
set_option maxRecDepth 100000
open RowKit YtklknkfoafdgpaaW.PrintWords YtklknkfoafdgpaaW.PrintLast YtklknkfoafdgpaaW.PrintMore
open PLiveKnown LiveT LiveB LiveSet LiveAhead LiveEnd LiveInv LiveSettled LiveCopied LiveAft LiveRunP LiveRunW LiveSame LiveKn LiveShown LiveFit LiveTaken LiveMet
set_option linter.unusedVariables false
set_option linter.unusedSimpArgs false
theorem info53:(Try.prog.info? 53).map (fun i=>(i.zero,i.size,i.bytes))=some (some (.slice none 0 0),1,24):=by kernel_rfl
theorem taken_row (n:Nat) (V:Nat→RS) (B:S43) (hl:B.f1.length≤281474976710656) (h2:B.f2.length≤9223372036854775807) (hf:∀ i,i<B.f1.length→Fit47 (rd_T47 B.f1 (i:Nat))) (A1 A2 A3 A4:Option Addr) (c1 c2 c3 c4:Nat) (w:World)
  (r1:Kd.C k47 w A1 B.f1.length B.f1) (l1:B.f1.length≤c1) (r2:Kd.C (Kd.int .i64) w A2 B.f2.length B.f2) (l2:B.f2.length≤c2) (r3:Kd.C k47 w A3 (runB n V B).f1.length (runB n V B).f1) (l3:(runB n V B).f1.length≤c3) (r4:Kd.C (Kd.int .i64) w A4 (runB n V B).f2.length (runB n V B).f2) (l4:(runB n V B).f2.length≤c4) :
  Calls Try.prog 23 #[.agg #[.int .i64 B.f0,.slice A1 B.f1.length c1,.slice A2 B.f2.length c2],.agg #[.int .i64 (runB n V B).f0,.slice A3 (runB n V B).f1.length c3,.slice A4 (runB n V B).f2.length c4]] w fun e w'=>∃ v,e= .returned (.tuple #[v,.bool true])∧Kd.R Kd.bool 4 w' w.heap.size (fun _=>True) v (outs iOf B.f1 (endd n V B.f2))∧Below w.heap.size w w':=by
 obtain ⟨k,hk⟩:=taken_ev n V B hl h2 hf;exact ztaken.calls k B.f0 A1 c1 B.f1 A2 c2 B.f2 (runB n V B).f0 A3 c3 (runB n V B).f1 A4 c4 (runB n V B).f2 _ true w r1 l1 r2 l2 r3 l3 r4 l4 hk
theorem outsL_take (bs:List S43) (V:Nat→RS) (b:Nat) (hb:b<bs.length):(outsL bs V).take (b+1)=(outsL bs V).take b++[outs iOf (rd_T43 bs b).f1 (endd bs.length V (rd_T43 bs b).f2)]:=by
 rw [List.take_add_one,←outsL_get bs V b hb];have h:b<(outsL bs V).length:=by rw [outsL_length];exact hb
 rw [List.getElem?_eq_getElem h]
 simp [rd_L10,List.getD_eq_getElem?_getD,h]
structure OW (w W:World) (v:Value) (ys:List (List Bool)):Prop where
 below:Below w.heap.size w W
 own:Kd.R (Kd.slice 4 Kd.bool) 53 W w.heap.size (fun _=>True) v ys
theorem OW.next {w W W1:World} {v:Value} {ys:List (List Bool)} (h:OW w W v ys) (hb:Below W.heap.size W W1):OW w W1 v ys:=⟨below_step h.below hb,Kd.R_below h.own hb⟩
theorem out_at {l:List S47} {S:RS} {i:Nat} (hi:i<l.length):(outs iOf l S)[i]? =some (idle (iOf l[i]) (back ((l.drop (i+1)).map iOf) S)):=by
 have h:=outs_app (l.take i) (l.drop i) S;rw [List.take_append_drop] at h;have hl:(outs iOf (l.take i) (back ((l.drop i).map iOf) S)).length=i:=by rw [outs_length,List.length_take];omega
 rw [h,List.getElem?_append_right (by omega),hl,Nat.sub_self,List.drop_eq_getElem_cons hi];rfl
theorem quiet2_calls (x:S47) (A3:Option Addr) (c3:Nat) (A7:Option Addr) (c7:Nat) (w:World) (h:RIn w x A3 c3 A7 c7) :
  Calls Try.prog 24 #[v47 x A3 c3 A7 c7] w fun e w'=>e= .returned (.bool (q47 x))∧Below w.heap.size w w':=by
 refine zquiet.calls x.f0 x.f1 x.f2 A3 c3 x.f3 x.f4 x.f5 x.f6 A7 c7 x.f7 (q47 x) w h.r3 h.l3 h.r7 h.l7 ?_;unfold zquiet.f q47
 by_cases h0:x.f0=1
 ·simp [h0]
 ·simp [h0]
def r7_21_T:Bool×List (List Nat×List Nat):=(true,[([],[]),([],[]),([0,1],[0,1]),([2],[2]),([],[]),([3,4],[3,4]),([5],[5]),([],[]),([7],[7]),([8],[8]),([8],[8]),([8],[8]),([8],[8]),([12,8],[8,12]),([8],[8]),([14,8],[8,14]),([9,10,11,13,15,8,8],[8,9,10,11,13,15]),([8,16],[8,16]),([6,17],[6,17])])
def r7_21_B:List Nat:=[0,0,3,7,0,31,63,0,128,384,384,384,384,4480,384,16768,65408,130944,262143]
theorem r7_21_tab:rtab .any (opsOf Try.f7 21)=r7_21_T:=by kernel_rfl
theorem r7_21_bits:waitsOk r7_21_T.2 r7_21_B=true:=by kernel_rfl
theorem ways_calls (fn rg:Int) (Ab:Option Addr) (cb:Nat) (bs:List S43) (V:Nat→RS) (w:World) (hC:Kd.C k43 w Ab bs.length bs) (hcb:bs.length≤cb) (hf:FitC bs) (hV:Lfp (codeOf bs) V) :
  Calls Try.prog 7 #[.agg #[.int .i64 fn,.int .i64 rg,.slice Ab bs.length cb]] w fun e w'=>e= .returned (.bool true)∧Below w.heap.size w w':=by
 have HC:=ak hC;have HCB0:=ak hcb;have HFT:=ak hf;have HV:=ak hV;have HN:Aside0 (bs.length*64≤281474976710656):=⟨by have:=hf.blocks;omega⟩
 have HL:=ak (runBs_length bs V);clear hC hcb hf hV
 go_enter Try.func7,Try.ntmps7
 go_wp2_with (first
  |((with_reducible refine gate_dst (N:=1) rfl ?_);refine zero_event 24 #[.int .i64 fn,.int .i64 rg,.slice Ab bs.length cb] rfl rfl qb ?_;intro g1 w1 hg1 hA1 hb1;have HG1:=ak hg1;have HA1:=ak hA1;have HB1:=ak hb1;have u0:w1.cell? ⟨g1,0,none⟩=some (.int .i64 fn):=(qk hA1 0);have u1:w1.cell? ⟨g1,1,none⟩=some (.int .i64 rg):=(qk hA1 1);have u2:w1.cell? ⟨g1,2,none⟩=some (.slice Ab bs.length cb):=(qk hA1 2);clear hg1 hA1 hb1)
  |(go_at_call 16;refine (run_calls fn rg Ab cb bs V _ (Kd.C_below HC.out HB1.out) HFT.out HV.out).mono ?_;rintro e w2 ⟨v,rfl,ho,hb2⟩;obtain ⟨Ar,cr,hv⟩:=Kd.R_slice ho;rw [HL.out] at hv;subst hv;have HR2:=ak ho;have HB2:=ak (below_step HB1.out hb2);have HA12:=ak ((hb2.block g1 (blk_lt HA1.out)).trans HA1.out);replace u0:=pw_cell_below hb2 u0;replace u1:=pw_cell_below hb2 u1;replace u2:=pw_cell_below hb2 u2;clear ho hb2)
  |((with_reducible refine gate_dst (N:=3) rfl ?_);refine zero_event 24 #[.int .i64 0,.int .i64 0,.slice none 0 0] rfl rfl qb ?_;intro g3 w3 hg3 hA3 hb3;have HG3:=ak hg3;have HA3:=ak hA3;have HB3:=ak (below_step HB2.out hb3);have HB23:=ak hb3;have HA13:=ak ((hb3.block g1 (blk_lt HA12.out)).trans HA12.out);have hne13:g1≠g3:=Nat.ne_of_lt (Nat.lt_of_lt_of_le (blk_lt HA12.out) hg3);replace u0:=pw_cell_below hb3 u0;replace u1:=pw_cell_below hb3 u1;replace u2:=pw_cell_below hb3 u2;have z0:w3.cell? ⟨g3,0,none⟩=some (.int .i64 0):=(qk hA3 0);have z1:w3.cell? ⟨g3,1,none⟩=some (.int .i64 0):=(qk hA3 1);have z2:w3.cell? ⟨g3,2,none⟩=some (.slice none 0 0):=(qk hA3 2);have y0:=blk_frozen hA3 0;have y1:=blk_frozen hA3 1;have y2:=blk_frozen hA3 2;clear hg3 hA3 hb3))
 have HX4:Aside0 (Below w.heap.size w (((w3.setCell ⟨g3,0,none⟩ (.int .i64 fn)).setCell ⟨g3,1,none⟩ (.int .i64 rg)).setCell ⟨g3,2,none⟩ (.slice Ar bs.length cr))):=⟨by
  have l3:w.heap.size≤g3:=Nat.le_trans HB2.out.size HG3.out;exact below_set (below_set (below_set HB3.out l3) l3) l3⟩
 have HX24:Aside0 (Below w2.heap.size w2 (((w3.setCell ⟨g3,0,none⟩ (.int .i64 fn)).setCell ⟨g3,1,none⟩ (.int .i64 rg)).setCell ⟨g3,2,none⟩ (.slice Ar bs.length cr))):=⟨below_set (below_set (below_set HB23.out HG3.out) HG3.out) HG3.out⟩
 have HP3:Aside0 ((((w3.setCell ⟨g3,0,none⟩ (.int .i64 fn)).setCell ⟨g3,1,none⟩ (.int .i64 rg)).setCell ⟨g3,2,none⟩ (.slice Ar bs.length cr)).heap[g3]? =some (.cells #[.int .i64 fn,.int .i64 rg,.slice Ar bs.length cr] 24 (0,0))):=⟨blk_put (blk_put (blk_put HA3.out 0 _ rfl) 1 _ rfl) 2 _ rfl⟩
 generalize (((w3.setCell ⟨g3,0,none⟩ (.int .i64 fn)).setCell ⟨g3,1,none⟩ (.int .i64 rg)).setCell ⟨g3,2,none⟩ (.slice Ar bs.length cr))=w4 at HX4 HX24 HP3 ⊢;have HP1:=ak ((HX24.out.block g1 (blk_lt HA12.out)).trans HA12.out);have HC4:=ak (Kd.C_below HC.out HX4.out);have HD4:Aside0 (Kd.C k43 w4 Ar bs.length (runBs bs V)):=⟨by have h:=(Kd.R_reads' HR2.out).2.2;rw [HL.out] at h;exact Kd.C_below h HX24.out⟩
 have H0:Aside0 (OW w4 w4 (.slice none 0 0) ((outsL bs V).take 0)):=⟨⟨Below.refl _ w4,Kd.R_nil _ _ _ _ _⟩⟩
 clear HG1 HA1 HB1 HR2 HB2 HA12 u0 u1 u2 HG3 HA3 HB3 HB23 HA13 z0 z1 z2 y0 y1 y2 HX24 hne13;have hbm:bs.length≤9223372036854775807:=by have:=HN.out;omega
 go_loopw [4,5] (fun v4 v5 wi=>∃ (b:Nat) (v:Value),b≤bs.length∧v4=v∧v5= .int .i64 b∧Aside0 (OW w4 wi v ((outsL bs V).take b))) (fun _ v5 _=>bs.length-(intOf v5).toNat)
 case atStart=>exact ⟨0,_,by omega,rfl,rfl,H0⟩
 case round =>
  clear H0;obtain ⟨b,v,hb,rfl,rfl,HO⟩:=hrel;obtain ⟨Av,cv,hv⟩:=Kd.R_slice HO.out.own;subst hv;have u2:=pw_cell_below HO.out.below (qj HP1 2:w4.cell? ⟨g1,2,none⟩=some (.slice Ab bs.length cb))
  by_cases hlt:b<bs.length
  ·obtain ⟨ad,A1,c1,A2,c2,e,hx0,hx1,hx2,l1,q1,l2,q2⟩:=rd_block HC4.out HO.out.below b hlt;subst e;obtain ⟨ar,A3,c3,A4,c4,e,hy0,hy1,hy2,l3,q3,l4,q4⟩:=rd_block HD4.out HO.out.below b hlt;subst e;have t2:=pw_cell_below HO.out.below (qj HP3 2:w4.cell? ⟨g3,2,none⟩=some (.slice (some ar) bs.length cr));rw [rd_run bs V b hlt] at hy0 hy1 hy2 l3 q3 l4 q4;have hbi:(b:Int)<bs.length:=by omega
   have HTK:Aside0 (∀ W,Below w4.heap.size w4 W→Calls Try.prog 23 #[.agg #[.int .i64 (rd_T43 bs b).f0,.slice A1 (rd_T43 bs b).f1.length c1,.slice A2 (rd_T43 bs b).f2.length c2],.agg #[.int .i64 (runB bs.length V (rd_T43 bs b)).f0,.slice A3 (runB bs.length V (rd_T43 bs b)).f1.length c3,.slice A4 (runB bs.length V (rd_T43 bs b)).f2.length c4]] W fun e w'=>∃ v,e= .returned (.tuple #[v,.bool true])∧Kd.R Kd.bool 4 w' W.heap.size (fun _=>True) v (outs iOf (rd_T43 bs b).f1 (endd bs.length V (rd_T43 bs b).f2))∧Below W.heap.size W w'):=⟨fun W hW =>
    taken_row bs.length V (rd_T43 bs b) (by have:=HFT.out.ins b hlt;omega) (by have:=HFT.out.next b hlt;omega) (HFT.out.each b hlt) A1 A2 A3 A4 c1 c2 c3 c4 W (Kd.C_below q1 hW) l1 (Kd.C_below q2 hW) l2 (Kd.C_below q3 hW) l3 (Kd.C_below q4 hW) l4⟩
   have HST:=ak (outsL_take bs V b hlt);have HLY:Aside0 ((((outsL bs V).take b).length+1)*24≤140737488355328):=⟨by rw [List.length_take,outsL_length];have:=HFT.out.blocks;omega⟩
   clear l1 q1 l2 q2 l3 q3 l4 q4;generalize outs iOf (rd_T43 bs b).f1 (endd bs.length V (rd_T43 bs b).f2)=fl at HTK HST;generalize runB bs.length V (rd_T43 bs b)=D at hy0 hy1 hy2 HTK;generalize rd_T43 bs b=B at hx0 hx1 hx2 HTK;generalize (outsL bs V).take b=ys at HO HST HLY;obtain ⟨pc,ins,nx⟩:=B;obtain ⟨dpc,dins,dnx⟩:=D;simp only at hx0 hx1 hx2 hy0 hy1 hy2
   have HTK:Aside0 (∀ W,Below w4.heap.size w4 W→Calls Try.prog 23 #[.agg #[.int .i64 pc,.slice A1 ins.length c1,.slice A2 nx.length c2],.agg #[.int .i64 dpc,.slice A3 dins.length c3,.slice A4 dnx.length c4]] W fun e w'=>∃ v,e= .returned (.tuple #[v,.bool true])∧Kd.R Kd.bool 4 w' W.heap.size (fun _=>True) v fl∧Below W.heap.size W w'):=⟨HTK.out⟩
   have HBL:=ak hlt;clear hlt
   go_wp2_with fail
   go_cut [6,7] (fun t s wx=>(∃ g c,t= .slice g fl.length c∧Aside0 (Kd.R Kd.bool 4 wx wr.heap.size (fun _=>True) (.slice g fl.length c) fl))∧s= .bool true∧Aside0 (Below wr.heap.size wr wx))
   case first =>
    go_region_with (go_at_call 23;refine (HTK.out _ (below_drew1 HO.out.below)).mono ?_;rintro e w5 ⟨v5,rfl,h5,hb0⟩;obtain ⟨g5,c5,rfl⟩:=Kd.R_slice h5;have HB5:=ak (below_step (below_drew1 (Below.refl _ wr)) hb0);have HF5:=ak h5;clear hb0 h5)
    all_goals (go_wp2;go_meet;exact ⟨⟨_,_,rfl,HF5⟩,rfl,HB5⟩)
   obtain ⟨⟨g5,c5,rfl,HF5⟩,rfl,HB5⟩:=hcut;clear HTK hx0 hx1 hx2 hy0 hy1 hy2 u2 t2 hbi;have HO5:=ak (HO.out.next HB5.out);have hbl:=HBL.out
   go_wp2_with (first
    |((with_reducible refine gate_dst (N:=61) rfl ?_);at_builtin;refine Kd.R_append (Kd.slice 4 Kd.bool) (w0:=w4) w4.heap.size rfl (.tmp 58) (.tmp 60) 52 53 (.slice none 0 0) 24 rfl Try.underlying52 info53 rfl (by decide) (by omega) (.slice Av ys.length cv) ys fl [.slice g5 fl.length c5] (fun _=>True) (fun k=>wr.heap.size≤k) rfl rfl ?aP ?aK ?aF HO5.out.own HO5.out.below HO5.out.below.size HLY.out ?_;(case aP=>exact ⟨_,rfl,Kd.R_lower (Kd.R_reok rfl HF5.out (fun b hb=>Kd.R_base HF5.out b hb)) HO.out.below.size⟩);(case aK=>exact fun k hk=>⟨trivial,fun he=>by have:=Kd.R_lt HO.out.own k he.symm;omega⟩);(case aF=>exact fun _ _=>trivial);intro v6 w6 ho hb hg hat;have HP:Aside0 (OW w4 w6 v6 (ys++[fl])):=(⟨⟨hb,ho⟩⟩);clear ho hb hg hat))
   go_roundw
   case rel=>exact ⟨b+1,_,by omega,rfl,by go_num,⟨by rw [HST.out];exact HP.out⟩⟩
   case measure=>simp [intOf];omega
  ·obtain rfl:b=bs.length:=by omega
   have htk:(outsL bs V).take bs.length=outsL bs V:=List.take_of_length_le (by rw [outsL_length];omega);rw [htk] at HO;rw [htk];have HCO:=ak (Kd.R_reads' HO.out.own).2.2;have HCV:=ak (Kd.R_reads' HO.out.own).2.1;have HXO:=ak HO.out.below;clear hlt hb htk
   go_wp2_with fail
   clear u2;generalize wr=wo at *;clear HO;have H0:=ak (Below.refl wo.heap.size wo)
   go_loopw [8] (fun v8 wi=>∃ (b:Nat),b≤bs.length∧v8= .int .i64 b∧Aside0 (Below wo.heap.size wo wi)) (fun v8 _=>bs.length-(intOf v8).toNat)
   case atStart=>exact ⟨0,by omega,rfl,H0⟩
   case round =>
    clear H0;obtain ⟨b,hb,rfl,HB⟩:=hrel;have HX:=ak (below_step HXO.out HB.out);have u2:=pw_cell_below HX.out (qj HP1 2:w4.cell? ⟨g1,2,none⟩=some (.slice Ab bs.length cb))
    by_cases hlt:b<bs.length
    ·obtain ⟨ad,A1,c1,A2,c2,e,hx0,hx1,hx2,l1,q1,l2,q2⟩:=rd_block HC4.out (Below.refl _ w4) b hlt;subst e;have hbi:(b:Int)<bs.length:=by omega
     have HBL:=ak hlt;have HX1:=ak hx1;have HI:=ak q1;have HFI:=ak (HFT.out.each b hlt);have hmx:(rd_T43 bs b).f1.length≤9223372036854775806:=by have:=HFT.out.ins b hlt;omega
     obtain ⟨ao,Ao,co,e,ho0,lo,co0⟩:=at_L10 HCO.out (b:Int) (by omega) (by rw [outsL_length];omega);subst e;rw [outsL_get bs V b hlt] at ho0 lo co0;rw [outs_length] at ho0 lo co0;have HO0:=ak ho0;have HCB:=ak co0
     have HMET:Aside0 (∀ W (i:Nat) (r:Int),Below w4.heap.size w4 W→Kd.C (Kd.slice 4 Kd.bool) W (some ao) (outsL bs V).length (outsL bs V)→inR r=true→i≤(rd_T43 bs b).f1.length→Calls Try.prog 25 #[.agg #[.int .i64 fn,.int .i64 rg,.slice (some ad) bs.length cb],.slice (some ao) (outsL bs V).length cv,.int .i64 b,.int .i64 i,.int .i64 r] W fun e w'=>e= .returned (.bool (back (((rd_T43 bs b).f1.drop i).map iOf) (endd bs.length V (rd_T43 bs b).f2) r))∧Below W.heap.size W w'):=⟨fun W i r hW hL hr hi=>by
      obtain ⟨k,hk⟩:=met_ev fn rg bs V r b HFT.out HV.out i hr HBL.out hi;exact zmet.calls k fn rg (some ad) cb bs (some ao) cv (outsL bs V) b i r _ W (Kd.C_below HC4.out hW) HCB0.out hL HCV.out hk⟩
     have HOA:Aside0 (∀ i (hi:i<(rd_T43 bs b).f1.length),(outs iOf (rd_T43 bs b).f1 (endd bs.length V (rd_T43 bs b).f2))[i]? =some (idle (iOf (rd_T47 (rd_T43 bs b).f1 i)) (back (((rd_T43 bs b).f1.drop (i+1)).map iOf) (endd bs.length V (rd_T43 bs b).f2)))):=⟨fun i hi=>by rw [rd47 _ i hi];exact out_at hi⟩
     have HER:Aside0 (∀ m,Regs (back (((rd_T43 bs b).f1.drop m).map iOf) (endd bs.length V (rd_T43 bs b).f2))):=⟨fun m=>back_regs _ (endd_regs _ (fun n hn=>HV.out.regs (by rw [codeOf_length];exact hn)))⟩
     have HFL:=ak (outs_length iOf (rd_T43 bs b).f1 (endd bs.length V (rd_T43 bs b).f2));generalize outs iOf (rd_T43 bs b).f1 (endd bs.length V (rd_T43 bs b).f2)=fl at HCB HOA HFL;generalize endd bs.length V (rd_T43 bs b).f2=E at HMET HOA HER;generalize (rd_T43 bs b).f1=ins at *;clear hx0 hx1 hx2 l1 q1 l2 q2 ho0 lo co0 hlt
     go_wp2_with fail
     have H0:=HB;clear u2 HX HB
     go_loopw [9] (fun v9 wi=>∃ (i:Nat),i≤ins.length∧v9= .int .i64 i∧Aside0 (Below wo.heap.size wo wi)) (fun v9 _=>ins.length-(intOf v9).toNat)
     case atStart=>exact ⟨0,by omega,rfl,H0⟩
     case round =>
      clear H0;obtain ⟨i,hi,rfl,HB⟩:=hrel;have HX:=ak (below_step HXO.out HB.out);have u2:=pw_cell_below HX.out (qj HP1 2:w4.cell? ⟨g1,2,none⟩=some (.slice (some ad) bs.length cb));have hx1:=pw_cell_below HX.out HX1.out
      by_cases hlt:i<ins.length
      ·obtain ⟨ai,A3,c3,A7,c7,e,hin,hrin⟩:=rd_ins HI.out i hlt;subst e;obtain ⟨q0,q1,q2,q3,q4,q5,q6,q7⟩:=hin.below HX.out;have HXR:Aside0 (∀ W,Below w4.heap.size w4 W→RIn W (rd_T47 ins i) A3 c3 A7 c7):=⟨fun W hW=>hrin.below hW⟩
       have hoa:=HOA.out i hlt;have hi3:i<fl.length:=by rw [HFL.out];exact hlt
       have HER1:=ak (HER.out (i+1));obtain ⟨af,e,hf⟩:=Kd.at_bool HCB.out (i:Int) (by omega) (by omega);subst e;have hrd:rdOf false fl (i:Int)=fl[i]:=by simp [rdOf,List.getD_eq_getElem?_getD,hi3]
       rw [List.getElem?_eq_getElem hi3] at hoa;replace hoa:=Option.some.inj hoa;rw [hrd,hoa] at hf;simp only [Int.toNat_natCast] at hf;have HFC:=ak hf;have HMX:Aside0 (∀ W (r:Int),Below wo.heap.size wo W→inR r=true→Calls Try.prog 25 #[.agg #[.int .i64 fn,.int .i64 rg,.slice (some ad) bs.length cb],.slice (some ao) (outsL bs V).length cv,.int .i64 b,.int .i64 ((i:Int)+1),.int .i64 r] W fun e w'=>e= .returned (.bool (back ((ins.drop (i+1)).map iOf) E r))∧Below W.heap.size W w'):=⟨fun W r hW hr=>by
        have e:((i:Int)+1)=((i+1:Nat):Int):=by omega
        rw [e];exact HMET.out W (i+1) r (below_step HXO.out hW) (Kd.C_below HCO.out hW) hr hlt⟩
       clear hin hrin hoa hrd hf hi3;generalize back ((ins.drop (i+1)).map iOf) E=S at HER1 HFC HMX;generalize rd_T47 ins i=x at q0 q1 q2 q3 q4 q5 q6 q7 HXR HFC;have HLT:=ak hlt;have hii:(i:Int)<ins.length:=by omega
       clear hlt hi
       go_upto_region 19 with (first
        |((with_reducible refine gate_dst (N:=10) rfl ?_);refine box47_zero_event rfl rfl rfl ?_;intro g10 w12 hg10 hA12 hb12;have HG12:=ak hg10;have HA12:=ak hA12;have HB12:=ak hb12;have z0:w12.cell? ⟨g10,0,none⟩=some (.int .i64 0):=(qk hA12 0);have y0:=blk_frozen hA12 0;have z1:w12.cell? ⟨g10,1,none⟩=some (.int .i64 0):=(qk hA12 1);have y1:=blk_frozen hA12 1;have z2:w12.cell? ⟨g10,2,none⟩=some (.int .i64 0):=(qk hA12 2);have y2:=blk_frozen hA12 2;have z3:w12.cell? ⟨g10,3,none⟩=some (.slice none 0 0):=(qk hA12 3);have y3:=blk_frozen hA12 3;have z4:w12.cell? ⟨g10,4,none⟩=some (.int .i64 0):=(qk hA12 4);have y4:=blk_frozen hA12 4;have z5:w12.cell? ⟨g10,5,none⟩=some (.int .i64 0):=(qk hA12 5);have y5:=blk_frozen hA12 5;have z6:w12.cell? ⟨g10,6,none⟩=some (.int .i64 0):=(qk hA12 6);have y6:=blk_frozen hA12 6;have z7:w12.cell? ⟨g10,7,none⟩=some (.slice none 0 0):=(qk hA12 7);have y7:=blk_frozen hA12 7;clear hg10 hA12 hb12))
       have HM:Aside0 (At47 ((((((((w12.setCell ⟨g10,0,none⟩ (.int .i64 x.f0)).setCell ⟨g10,1,none⟩ (.int .i64 x.f1)).setCell ⟨g10,2,none⟩ (.int .i64 x.f2)).setCell ⟨g10,3,none⟩ (.slice A3 x.f3.length c3)).setCell ⟨g10,4,none⟩ (.int .i64 x.f4)).setCell ⟨g10,5,none⟩ (.int .i64 x.f5)).setCell ⟨g10,6,none⟩ (.int .i64 x.f6)).setCell ⟨g10,7,none⟩ (.slice A7 x.f7.length c7)) g10 x A3 c3 A7 c7):=⟨put47_blk HA12.out rfl _ _ _ _ _ _ _ _⟩
       have HBM:Aside0 (Below wr.heap.size wr ((((((((w12.setCell ⟨g10,0,none⟩ (.int .i64 x.f0)).setCell ⟨g10,1,none⟩ (.int .i64 x.f1)).setCell ⟨g10,2,none⟩ (.int .i64 x.f2)).setCell ⟨g10,3,none⟩ (.slice A3 x.f3.length c3)).setCell ⟨g10,4,none⟩ (.int .i64 x.f4)).setCell ⟨g10,5,none⟩ (.int .i64 x.f5)).setCell ⟨g10,6,none⟩ (.int .i64 x.f6)).setCell ⟨g10,7,none⟩ (.slice A7 x.f7.length c7))):=⟨put47_below HB12.out HG12.out _ _ _ _ _ _ _ _⟩
       generalize (((((((w12.setCell ⟨g10,0,none⟩ (.int .i64 x.f0)).setCell ⟨g10,1,none⟩ (.int .i64 x.f1)).setCell ⟨g10,2,none⟩ (.int .i64 x.f2)).setCell ⟨g10,3,none⟩ (.slice A3 x.f3.length c3)).setCell ⟨g10,4,none⟩ (.int .i64 x.f4)).setCell ⟨g10,5,none⟩ (.int .i64 x.f5)).setCell ⟨g10,6,none⟩ (.int .i64 x.f6)).setCell ⟨g10,7,none⟩ (.slice A7 x.f7.length c7)=wm at HM HBM ⊢;clear z0 y0 z1 y1 z2 y2 z3 y3 z4 y4 z5 y5 z6 y6 z7 y7 HA12 HB12 HG12 u2 hx1;have HXM:=ak (below_step HX.out HBM.out);have HBO:=ak (below_step HB.out HBM.out)
       obtain ⟨e0,e1,e2,e3,e4,e5,e6,e7⟩:=cells47_of HM.out;have hlt:=HLT.out;obtain ⟨t,ht⟩:∃ t,q47 x=t:=⟨_,rfl⟩
       have HQ:=ak ht;clear ht;cases t with
       |false =>
        go_wp2_with (go_at_call 24;refine (quiet2_calls x A3 c3 A7 c7 _ (HXR.out _ HXM.out)).mono ?_;rw [HQ.out];rintro e w13 ⟨rfl,hb13⟩;have HB13:=ak (below_step HBO.out hb13);clear hb13)
        go_roundw
        case rel=>exact ⟨i+1,by omega,by go_num,HB13⟩
        case measure=>simp [intOf];omega
       |true =>
        go_upto_region 20 with (go_at_call 24;refine (quiet2_calls x A3 c3 A7 c7 _ (HXR.out _ HXM.out)).mono ?_;rw [HQ.out];rintro e w13 ⟨rfl,hb13⟩;have HB13:=ak (below_step HBO.out hb13);have HX13:=ak (below_step HXM.out hb13);replace e2:=pw_cell_below hb13 e2;clear hb13 e0 e1 e3 e4 e5 e6 e7)
        go_cut [11] (fun t wx=>t= .bool (inR x.f2)∧wx=w13)
        case first =>
         by_cases h0:0≤x.f2
         ·have hd0:decide (0≤x.f2)=true:=decide_eq_true h0
          by_cases h1:x.f2<512
          ·have hd1:decide (x.f2<512)=true:=decide_eq_true h1
           go_wp2;go_meet;exact ⟨by simp [inR,hd0,hd1],rfl⟩
          ·have hd1:decide (x.f2<512)=false:=decide_eq_false h1
           go_wp2;go_meet;exact ⟨by simp [inR,hd0,hd1],rfl⟩
         ·have hd0:decide (0≤x.f2)=false:=decide_eq_false h0
          go_wp2;go_meet;exact ⟨by simp [inR,hd0],rfl⟩
        obtain ⟨rfl,rfl⟩:=hcut;clear q0 q1 q2 q3 q4 q5 q6 q7 HM HBM HXM HBO
        go_wp2_with fail
        generalize wc=wd at *;have u0:=pw_cell_below HX13.out (qj HP1 0:w4.cell? ⟨g1,0,none⟩=some (.int .i64 fn));have u1:=pw_cell_below HX13.out (qj HP1 1:w4.cell? ⟨g1,1,none⟩=some (.int .i64 rg));have u2:=pw_cell_below HX13.out (qj HP1 2:w4.cell? ⟨g1,2,none⟩=some (.slice (some ad) bs.length cb));have o0:=pw_cell_below HB13.out HO0.out;simp only [Int.toNat_natCast] at o0;have hob:(b:Int)<((outsL bs V).length:Int):=by rw [outsL_length];exact hbi
        have hidle:idle (iOf x) S= !S x.f2:=by
         show (q47 x&& !S x.f2)= !S x.f2
         rw [HQ.out,Bool.true_and]
        have f0:=pw_cell_below HB13.out HFC.out;rw [hidle] at f0;clear hidle
        go_cut [11,118] (fun q t wx=>q= .bool (inR x.f2)∧t= .bool false∧Aside0 (Below wd.heap.size wd wx))
        case first =>
         cases hir:inR x.f2 with
         |false =>
          have hs:S x.f2=false:=by
           cases hs:S x.f2 with
           |false=>rfl
           |true=>have:=HER1.out _ hs;rw [hir] at this;exact absurd this (by decide)
          rw [hs] at f0;have HIR:=ak hir;clear hs hir;have f0:wd.cell? (af.add i)=some (.bool true):=f0
          go_quiet (fail)
          all_goals (go_wp2;go_meet;refine ⟨by rw [HIR.out],rfl,⟨?_⟩⟩;exact (⟨rfl,rfl,rfl,Nat.le_refl _,fun _ _=>rfl⟩:Below wd.heap.size wd (wd.drewN _)))
         |true =>
          have HIR:=ak hir;clear hir;obtain ⟨s,hs⟩:∃ s,S x.f2=s:=⟨_,rfl⟩
          rw [hs] at f0;have HS:=ak hs;clear hs;have hwi:IntKind.i64.wrap ((i:Int)+1)=(i:Int)+1:=by rw [i64_w];unfold wrap64;omega
          have HD:Aside0 (Below wd.heap.size wd wd.drew):=⟨below_drew1 (Below.refl _ _)⟩
          have O0:Aside0 (wd.drew.cell? (ao.add b)=some (.slice (some af) ins.length co)):=⟨o0⟩
          have F0:Aside0 (wd.drew.cell? (af.add i)=some (.bool (!s))):=⟨f0⟩
          have U0:Aside0 (wd.drew.cell? ⟨g1,0,none⟩=some (.int .i64 fn)):=⟨u0⟩
          have U1:Aside0 (wd.drew.cell? ⟨g1,1,none⟩=some (.int .i64 rg)):=⟨u1⟩
          have U2:Aside0 (wd.drew.cell? ⟨g1,2,none⟩=some (.slice (some ad) bs.length cb)):=⟨u2⟩
          have E2:Aside0 (wd.drew.cell? ⟨g10,2,none⟩=some (.int .i64 x.f2)):=⟨e2⟩
          clear o0 f0 u0 u1 u2 e2;refine start_ (n:=19) (S:=fun w'=>w'.cell? (ao.add b)=some (.slice (some af) ins.length co)∧w'.cell? (af.add i)=some (.bool (!s))∧w'.cell? ⟨g1,0,none⟩=some (.int .i64 fn)∧w'.cell? ⟨g1,1,none⟩=some (.int .i64 rg)∧w'.cell? ⟨g1,2,none⟩=some (.slice (some ad) bs.length cb)∧w'.cell? ⟨g10,2,none⟩=some (.int .i64 x.f2)) (ds:=[]) (bz 19 0) (by kernel_rfl) rfl rfl ⟨O0.out,F0.out,U0.out,U1.out,U2.out,E2.out⟩ (fun hHeld=>?_);refine with_tabW r7_21_tab r7_21_bits (fun HT_ HW_=>?_)
          generalize World.drew wd=W2 at HD O0 F0 U0 U1 U2 E2 hHeld ⊢;refine pu 0 100 19 1 ?_;refine pu 1 101 19 2 ?_;refine pu 2 102 19 3 ?_;refine tk 3 103 19 4 ?_;refine pu 4 104 19 5 ?_;refine pu 5 105 19 6 ?_;refine tk 6 106 19 7 ?_;refine pu 7 107 19 8 ?_;refine pu 8 108 19 9 ?_;refine tk 9 109 19 10 ?_;refine pu 10 110 19 11 ?_;refine pu 11 111 19 12 ?_;refine pu 12 112 19 13 ?_;refine pu 13 113 19 14 ?_;refine pu 14 114 19 15 ?_;refine tk 15 115 19 16 ?_;refine one_ (i:=16) (N:=some 116) (bz 19 17) rfl rfl (one_of HT_.out (by kernel_rfl)) (by decide) (fun K hK=>?_)
          refine goes_ Try.func25 (by kernel_rfl) rfl #[.agg #[.int .i64 fn,.int .i64 rg,.slice (some ad) bs.length cb],.slice (some ao) (outsL bs V).length cv,.int .i64 b,.int .i64 ((i:Int)+1),.int .i64 x.f2] (by rfl) rfl rfl (by (try simp only [List.map_toArray,List.map_cons,List.map_nil]);first |done |rfl) ?_;refine (HMX.out W2 x.f2 (below_step HB13.out HD.out) HIR.out).mono ?_;rintro e w14 ⟨rfl,hb0⟩;refine ⟨_,rfl,?_⟩;have HB14:=ak (below_step HD.out hb0);have hb0':=hb0;clear hb0
          refine hK.out _ _ ⟨pw_cell_below hb0' O0.out,pw_cell_below hb0' F0.out,pw_cell_below hb0' U0.out,pw_cell_below hb0' U1.out,pw_cell_below hb0' U2.out,pw_cell_below hb0' E2.out⟩ (fun hHeld=>?_);clear hK K;refine norm_ (a':=?_) ?_ ?_;rotate_left
          ·show Act.put _ (some 116) _=_
           simp only [Act.put,sA,sB,sC,i64_w,i32_w];rfl
          refine pu 17 117 19 18 ?_;refine pu 18 118 19 19 ?_;refine done_ (done_of HT_.out (by kernel_rfl)) ?_
          go_wp2
          go_meet
          exact ⟨by rw [HIR.out],by rw [HS.out];cases s<;>rfl,HB14⟩
        obtain ⟨rfl,rfl,HB14⟩:=hcut
        go_wp2_with fail
        go_roundw
        case rel=>exact ⟨i+1,by omega,by go_num,⟨below_step HB13.out HB14.out⟩⟩
        case measure=>simp [intOf];omega
      ·obtain rfl:i=ins.length:=by omega
       have hbl:=HBL.out
       go_wp2_with fail
       go_roundw
       case rel=>exact ⟨b+1,by omega,by go_num,HB⟩
       case measure=>simp [intOf];omega
    ·obtain rfl:b=bs.length:=by omega
     go_wp2_with (go_at_call 21;refine (Go.Proofs.Ytklknkfoafdgpaa.LiveShown2.shown_calls _).mono ?_;rintro e w5 ⟨rfl,hb5⟩;have HB5:=ak (below_step (below_step HX4.out HX.out) hb5);clear hb5)
     go_ret
     exact ⟨rfl,HB5.out⟩
end Go.Proofs.Ytklknkfoafdgpaa.LiveWays
