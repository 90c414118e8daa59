import Derived.Test.YtklknkfoafdgpaaLiveHandP
import Derived.Test.YtklknkfoafdgpaaLiveRunW
import Derived.Test.YtklknkfoafdgpaaLiveEqC
import Derived.Test.YtklknkfoafdgpaaLiveKept
namespace Go.Proofs.Ytklknkfoafdgpaa.LiveRefR
set_option maxHeartbeats 8000000
set_option maxRecDepth 100000
open RowKit YtklknkfoafdgpaaW.PrintWords YtklknkfoafdgpaaW.PrintLast YtklknkfoafdgpaaW.PrintMore
open PLiveKnown LiveT LiveB LiveInv LiveSet LiveAhead LiveEnd LiveSettled LiveCopied LiveAft LiveRunP LiveSame LiveFit LiveEvt LiveAsked LiveNoth LiveFindP LiveFindQ LiveFind LiveRefP
set_option linter.unusedVariables false
set_option linter.unusedSimpArgs false
structure RQ (wF W:World) (g4:Nat) (fn rg:Int) (Ad:Option Addr) (n cd:Nat) (ds:List S43):Prop where
 below:Below wF.heap.size wF W
 b4:W.heap[g4]? =some (.cells #[.int .i64 fn,.int .i64 rg,.slice Ad n cd] 24 (0,0))
 own:Kd.R k43 43 W wF.heap.size (fun k=>k≠g4) (.slice Ad n cd) ds
 l4:wF.heap.size≤g4
theorem RQ.next {wF W W1:World} {g4:Nat} {fn rg:Int} {Ad:Option Addr} {n cd:Nat} {ds:List S43} (h:RQ wF W g4 fn rg Ad n cd ds) (hb:Below W.heap.size W W1):RQ wF W1 g4 fn rg Ad n cd ds:=
 ⟨below_step h.below hb,(hb.block g4 (blk_lt h.b4)).trans h.b4,Kd.R_below h.own hb,h.l4⟩
def mixed (bs:List S43) (V:Nat→RS) (b:Nat):List S43:=(runBs bs V).take b++bs.drop b
theorem mixed_length (bs:List S43) (V:Nat→RS) (b:Nat) (hb:b≤bs.length):(mixed bs V b).length=bs.length:=by
 simp [mixed,runBs_length];omega
theorem mixed_get (bs:List S43) (V:Nat→RS) (b:Nat) (hb:b<bs.length) (z:S43):(mixed bs V b).getD b z=rd_T43 bs b:=by
 rw [rd43 bs b hb,List.getD_eq_getElem?_getD,mixed,List.getElem?_append_right (by rw [List.length_take];omega),List.length_take,runBs_length,List.getElem?_drop];rw [show b+(b-min b bs.length)=b by omega,List.getElem?_eq_getElem hb];rfl
theorem mixed_set (bs:List S43) (V:Nat→RS) (b:Nat) (hb:b<bs.length):(mixed bs V b).set b (runB bs.length V (rd_T43 bs b))=mixed bs V (b+1):=by
 unfold mixed;rw [runBs_take bs V b hb,List.set_append_right (h:=by rw [List.length_take];omega),List.length_take,runBs_length,show b-min b bs.length=0 by omega,List.drop_eq_getElem_cons hb,List.set_cons_zero,List.append_assoc];rfl
theorem rrun_calls (fn rg:Int) (Ab:Option Addr) (cb:Nat) (bs:List S43) (V:Nat→RS) (w:World) (hC:Kd.C k43 w Ab bs.length bs) (hcb:bs.length≤cb) (hf:FitC bs) (hV:Lfp (codeOf bs) V) :
  Calls Try.prog 15 #[.agg #[.int .i64 fn,.int .i64 rg,.slice Ab bs.length cb]] w fun e w'=>∃ v,e= .returned (.agg #[.int .i64 fn,.int .i64 rg,v])∧Kd.R k43 43 w' w.heap.size (fun _=>True) v (runBs bs V)∧Below w.heap.size w w':=by
 have HC:=ak hC;have HCB:=ak hcb;have HFT:=ak hf;have HV:=ak hV;have hbm:bs.length≤9223372036854775807:=Kd.C_max hC;clear hC hcb hf hV
 go_enter Try.func15,Try.ntmps15
 go_wp2_with (first
  |((with_reducible refine gate_dst (N:=1) rfl ?_);refine LiveRunW.zero_event 24 #[.int .i64 fn,.int .i64 rg,.slice Ab bs.length cb] rfl rfl qb ?_;intro g1 w1 hg1 hA1 hb1;have HA1:=ak hA1;have HB1:=ak hb1;clear hg1 hA1 hb1)
  |((with_reducible refine gate_dst (N:=2) rfl ?_);refine LiveRunW.zero_event 24 #[.int .i64 0,.int .i64 0,.slice none 0 0] rfl rfl qb ?_;intro g2 w2 hg2 hA2 hb2;have HG2:=ak (Nat.le_trans HB1.out.size hg2);have HA2:=ak hA2;have HB2:=ak (below_step HB1.out hb2);have HA12:=ak ((hb2.block g1 (blk_lt HA1.out)).trans HA1.out);have u0:w2.cell? ⟨g1,0,none⟩=some (.int .i64 fn):=(qj HA12 0);have u1:w2.cell? ⟨g1,1,none⟩=some (.int .i64 rg):=(qj HA12 1);have u2:w2.cell? ⟨g1,2,none⟩=some (.slice Ab bs.length cb):=(qj HA12 2);clear hg2 hA2 hb2)
  |(go_at_call 26;refine (find_calls fn rg Ab cb bs V _ (Kd.C_below HC.out HB2.out) HCB.out HFT.out HV.out).mono ?_;rintro e wF ⟨v,vs,H,f,rfl,hw3,hfw,hb3⟩;obtain ⟨A3,c3,hv,hc3,hC3⟩:=W3.C hw3;subst hv;have HF:=ak hfw;have HW:=ak hw3;have HBF:=ak (below_step HB2.out hb3);have HA1F:=ak ((hb3.block g1 (blk_lt HA12.out)).trans HA12.out);have HA2F:=ak ((hb3.block g2 (blk_lt HA2.out)).trans HA2.out);replace u0:=pw_cell_below hb3 u0;replace u1:=pw_cell_below hb3 u1;replace u2:=pw_cell_below hb3 u2;clear hw3 hfw hb3 hc3 hC3)
  |(go_at_call 19;refine (LiveEqC.regs19_calls fn rg Ab cb bs _ (Kd.C_below HC.out HBF.out) HFT.out).mono ?_;rintro e wC ⟨vD,rfl,ho,hb4⟩;obtain ⟨Ad,cd,hvD⟩:=Kd.R_slice ho;subst hvD;have HO:=ak ho;have HBC:=ak hb4;clear ho hb4 u0 u1 u2)
  |((with_reducible refine gate_dst (N:=4) rfl ?_);refine LiveRunW.zero_event 24 #[.int .i64 0,.int .i64 0,.slice none 0 0] rfl rfl qb ?_;intro g4 w4 hg4 hA4 hb4;have HG4:=ak hg4;have HA4:=ak hA4;have HB4:=ak hb4;have z0:w4.cell? ⟨g4,0,none⟩=some (.int .i64 0):=(qk hA4 0);have z1:w4.cell? ⟨g4,1,none⟩=some (.int .i64 0):=(qk hA4 1);have z2:w4.cell? ⟨g4,2,none⟩=some (.slice none 0 0):=(qk hA4 2);have y0:=blk_frozen hA4 0;have y1:=blk_frozen hA4 1;have y2:=blk_frozen hA4 2;clear hg4 hA4 hb4))
 have H0:Aside0 (RQ wF (((w4.setCell ⟨g4,0,none⟩ (.int .i64 fn)).setCell ⟨g4,1,none⟩ (.int .i64 rg)).setCell ⟨g4,2,none⟩ (.slice Ad bs.length cd)) g4 fn rg Ad bs.length cd (mixed bs V 0)):=⟨by
  have l4:wF.heap.size≤g4:=Nat.le_trans HBC.out.size HG4.out;have ho:Kd.R k43 43 w4 wF.heap.size (fun k=>k≠g4) (.slice Ad bs.length cd) bs:=Kd.R_mono (Kd.R_elderB HO.out g4 HG4.out |> fun h=>Kd.R_below h HB4.out) (fun _ hk=>hk.2);refine ⟨below_set (below_set (below_set (below_step HBC.out HB4.out) l4) l4) l4,blk_put (blk_put (blk_put HA4.out 0 _ rfl) 1 _ rfl) 2 _ rfl,?_,l4⟩;exact Kd.R_far (Kd.R_far (Kd.R_far ho (fun _ hk=>hk) _) (fun _ hk=>hk) _) (fun _ hk=>hk) _⟩
 clear HO HBC HG4 HA4 HB4 z0 z1 z2 y0 y1 y2 HA12 HA1 HB1 HB2 HA2
 go_loopw [5] (fun v5 wi=>∃ (b:Nat),b≤bs.length∧v5= .int .i64 b∧Aside0 (RQ wF wi g4 fn rg Ad bs.length cd (mixed bs V b))) (fun v5 _=>bs.length-(intOf v5).toNat)
 case atStart=>exact ⟨0,by omega,rfl,H0⟩
 case round =>
  clear H0;obtain ⟨b,hb,rfl,HR⟩:=hrel;have u0:=pw_cell_below HR.out.below (qj HA1F 0:wF.cell? ⟨g1,0,none⟩=some (.int .i64 fn));have u1:=pw_cell_below HR.out.below (qj HA1F 1:wF.cell? ⟨g1,1,none⟩=some (.int .i64 rg));have u2:=pw_cell_below HR.out.below (qj HA1F 2:wF.cell? ⟨g1,2,none⟩=some (.slice Ab bs.length cb))
  by_cases hlt:b<bs.length
  ·have HBL:=ak hlt;have HML:=ak (mixed_length bs V b hb);have HMG:=ak (mixed_get bs V b hlt z43);have HMS:=ak (mixed_set bs V b hlt);have hbi:(b:Int)<bs.length:=by omega
   obtain ⟨ad,A1,c1,A2,c2,e,hx0,hx1,hx2,l1,hg1,l2,hg2⟩:=rd_block HC.out HBF.out b hlt;subst e;have HX1:=ak hx1;have HI1:=ak hg1;have HFE:=ak (HFT.out.each b hlt);have HFI:=ak (HFT.out.ins b hlt);have hmx1:(rd_T43 bs b).f1.length≤9223372036854775807:=Kd.C_max hg1;have HRB:Aside0 (runB bs.length V (rd_T43 bs b)=⟨(rd_T43 bs b).f0,strip iOf (rd_T43 bs b).f1 (endd bs.length V (rd_T43 bs b).f2),(rd_T43 bs b).f2⟩):=⟨rfl⟩
   have HWA:Aside0 (∀ i,want bs V b i=back (((rd_T43 bs b).f1.drop i).map iOf) (endd bs.length V (rd_T43 bs b).f2)):=⟨fun i=>rfl⟩
   have HIN:Aside0 (insOf bs b=(rd_T43 bs b).f1):=⟨rfl⟩
   have HRO:Aside0 (rowsOf bs b=(rd_T43 bs b).f1.length+1):=⟨rfl⟩
   generalize rd_T43 bs b=B at *;obtain ⟨pc,ins,nx⟩:=B;simp only at hx0 hx1 hx2 l1 hg1 l2 hg2 hmx1;have HX1:Aside0 (wF.cell? ⟨(ad.add (b*3)).block,(ad.add (b*3)).off+1,none⟩=some (.slice A1 ins.length c1)):=⟨hx1⟩
   have HI1:Aside0 (Kd.C k47 w A1 ins.length ins):=⟨hg1⟩
   have HFE:Aside0 (∀ i,i<ins.length→Fit47 (rd_T47 ins i)):=⟨HFE.out⟩
   have HFI:Aside0 (ins.length*96≤140737488355328):=⟨HFI.out⟩
   have HRB:Aside0 (runB bs.length V ⟨pc,ins,nx⟩=⟨pc,strip iOf ins (endd bs.length V nx),nx⟩):=⟨rfl⟩
   have HWA:Aside0 (∀ i,want bs V b i=back ((ins.drop i).map iOf) (endd bs.length V nx)):=⟨HWA.out⟩
   have HIN:Aside0 (insOf bs b=ins):=⟨HIN.out⟩
   have HRO:Aside0 (rowsOf bs b=ins.length+1):=⟨HRO.out⟩
   generalize endd bs.length V nx=E at *;have HRI:Aside0 (∀ m,m<ins.length→∃ ad3 A3 c3 A7 c7,A1=some ad3∧InsAt w (ad3.add (m*8)) (rd_T47 ins m) A3 c3 A7 c7∧RIn w (rd_T47 ins m) A3 c3 A7 c7):=⟨fun m hm=>rd_ins HI1.out m hm⟩
   obtain ⟨FK,hFK⟩:∃ FK:Nat→Bool,∀ i,FK i= !idle (iOf (rd_T47 ins i)) (back ((ins.drop (i+1)).map iOf) E):=⟨_,fun _=>rfl⟩
   have HFK:=ak hFK;clear hFK l1 hg1 l2 hg2 hx0 hx1 hx2 hlt hb;have HX1w:=ak (pw_cell_below HR.out.below HX1.out);obtain ⟨gd,cap,hvd,hgl,hglt,hxa⟩:=Kd.R_form HR.out.own (by rw [HML.out];exact Nat.lt_of_le_of_lt (Nat.zero_le _) HBL.out);injection hvd with hvd hxb hxc;subst hvd;clear hxa hxb hxc;have HGD:=ak hglt;clear hgl hglt
   go_wp2_with fail
   have H6:Aside0 (Kd.R k47 47 wr wr.heap.size (fun _=>True) (.slice none 0 0) (pickTo ins FK 0)):=⟨Kd.R_nil _ _ _ _ _⟩
   clear u0 u1 u2;generalize wr=wo at *
   go_loopw [6,7] (fun v6 v7 wi=>∃ (i:Nat),i≤ins.length∧v7= .int .i64 i∧Aside0 (Below wo.heap.size wo wi)∧Aside0 (Kd.R k47 47 wi wo.heap.size (fun _=>True) v6 (pickTo ins FK i))) (fun _ v7 _=>ins.length-(intOf v7).toNat)
   case atStart=>exact ⟨0,by omega,rfl,⟨Below.refl _ _⟩,H6⟩
   case round =>
    clear H6;obtain ⟨i,hi,rfl,HB,HV6⟩:=hrel;obtain ⟨Ai,ci,hv6⟩:=Kd.R_slice HV6.out;subst hv6;have HRN:=ak (HR.out.next HB.out);have u0:=pw_cell_below HRN.out.below (qj HA1F 0:wF.cell? ⟨g1,0,none⟩=some (.int .i64 fn));have u1:=pw_cell_below HRN.out.below (qj HA1F 1:wF.cell? ⟨g1,1,none⟩=some (.int .i64 rg));have u2:=pw_cell_below HRN.out.below (qj HA1F 2:wF.cell? ⟨g1,2,none⟩=some (.slice (some ad) bs.length cb));have hx1:=pw_cell_below HRN.out.below HX1.out
    by_cases hlti:i<ins.length
    ·obtain ⟨ai,B3',d3',B7',d7',e3,hin,hrin⟩:=HRI.out i hlti;subst e3;have HFX:=ak (HFE.out i hlti);have HPS:=ak (pickTo_succ ins FK i);have HLM:=ak (pickTo_length ins FK i);have HLI:=ak hlti;have hii:(i:Int)<ins.length:=by omega
     have hbw:=below_step HBF.out HRN.out.below;have HBW:=ak hbw;have HID:Aside0 (idle (iOf (rd_T47 (insOf bs b) i)) (f b (i+1))= !FK i):=⟨by rw [HF.out b (i+1) HBL.out (by rw [HIN.out];exact hlti),HWA.out,HIN.out,HFK.out,Bool.not_not]⟩
     have HRG:Aside0 (Regs (f b (i+1))):=⟨by rw [HF.out b (i+1) HBL.out (by rw [HIN.out];exact hlti)];exact want_regs HV.out b (i+1)⟩
     generalize rd_T47 ins i=x at hin hrin HFX HPS;obtain ⟨q0,q1,q2,q3,q4,q5,q6,q7⟩:=hin.below hbw;have HXR:Aside0 (∀ W,Below w.heap.size w W→RIn W x B3' d3' B7' d7'):=⟨fun W hW=>hrin.below hW⟩
     have HWW:=ak (HW.out.next HRN.out.below);clear hin hrin hbw hi hlti;generalize hgen:pickTo ins FK i=zs at HV6 HPS HLM;clear hgen;cases hfki:FK i
     ·have HFI0:=ak hfki;clear hfki
      go_wp2_with (first
       |(go_at_call 34;refine (LiveRefP.idle_calls fn rg (some ad) cb (Kd.C_below HC.out HBW.out) HCB.out HWW.out b i HBL.out (by rw [HIN.out];exact HLI.out) HRG.out).mono ?_;rw [HID.out,HFI0.out];rintro e w9 ⟨rfl,hb9⟩;have HB9:=ak (below_step HB.out hb9);have HV9:=ak (Kd.R_below HV6.out hb9);clear hb9 u0 u1 u2 hx1 q0 q1 q2 q3 q4 q5 q6 q7))
      go_roundw
      case rel=>exact ⟨i+1,by have:=HLI.out;omega,by go_num,HB9,⟨by rw [HPS.out,if_neg (by rw [HFI0.out];decide),List.append_nil];exact HV9.out⟩⟩
      case measure=>simp [intOf];omega
     ·have HFI1:=ak hfki;have HLE:Aside0 ((zs.length+1)*96≤140737488355328):=⟨by have:=HLM.out;have:=HLI.out;have:=HFI.out;omega⟩
      clear hfki
      go_wp2_with (first
       |(go_at_call 34;refine (LiveRefP.idle_calls fn rg (some ad) cb (Kd.C_below HC.out HBW.out) HCB.out HWW.out b i HBL.out (by rw [HIN.out];exact HLI.out) HRG.out).mono ?_;rw [HID.out,HFI1.out];rintro e w9 ⟨rfl,hb9⟩;have HB9:=ak (below_step HB.out hb9);have HV9:=ak (Kd.R_below HV6.out hb9);have HW9:=ak (below_step HBW.out hb9);replace u2:=pw_cell_below hb9 u2;replace hx1:=pw_cell_below hb9 hx1;replace q0:=pw_cell_below hb9 q0;replace q1:=pw_cell_below hb9 q1;replace q2:=pw_cell_below hb9 q2;replace q3:=pw_cell_below hb9 q3;replace q4:=pw_cell_below hb9 q4;replace q5:=pw_cell_below hb9 q5;replace q6:=pw_cell_below hb9 q6;replace q7:=pw_cell_below hb9 q7;clear hb9 u0 u1)
       |(go_at_call 18;refine (copyIns_calls x B3' d3' B7' d7' _ (HXR.out _ HW9.out) HFX.out).mono ?_;rintro e w10 ⟨v3,v7,rfl,ho3,ho7,hb10⟩;obtain ⟨B3,d3,rfl⟩:=Kd.R_slice ho3;obtain ⟨B7,d7,rfl⟩:=Kd.R_slice ho7;have HO3:=ak ho3;have HO7:=ak ho7;have HB10:=ak hb10;simp only [row47];clear ho3 ho7 hb10 u2 hx1 q0 q1 q2 q3 q4 q5 q6 q7)
       |((with_reducible refine gate_dst (N:=8) rfl ?_);refine box47_zero_event rfl rfl rfl ?_;intro g12 w12 hg12 hA12 hb12;have HG12:=ak hg12;have HA12:=ak hA12;have HB12:=ak hb12;have z0:w12.cell? ⟨g12,0,none⟩=some (.int .i64 0):=(qk hA12 0);have y0:=blk_frozen hA12 0;have z1:w12.cell? ⟨g12,1,none⟩=some (.int .i64 0):=(qk hA12 1);have y1:=blk_frozen hA12 1;have z2:w12.cell? ⟨g12,2,none⟩=some (.int .i64 0):=(qk hA12 2);have y2:=blk_frozen hA12 2;have z3:w12.cell? ⟨g12,3,none⟩=some (.slice none 0 0):=(qk hA12 3);have y3:=blk_frozen hA12 3;have z4:w12.cell? ⟨g12,4,none⟩=some (.int .i64 0):=(qk hA12 4);have y4:=blk_frozen hA12 4;have z5:w12.cell? ⟨g12,5,none⟩=some (.int .i64 0):=(qk hA12 5);have y5:=blk_frozen hA12 5;have z6:w12.cell? ⟨g12,6,none⟩=some (.int .i64 0):=(qk hA12 6);have y6:=blk_frozen hA12 6;have z7:w12.cell? ⟨g12,7,none⟩=some (.slice none 0 0):=(qk hA12 7);have y7:=blk_frozen hA12 7;clear hg12 hA12 hb12)
       |((with_reducible refine gate_dst (N:=50) rfl ?_);at_builtin;have BW:Aside0 (Below w9.heap.size w9 ((((((((w12.setCell ⟨g12,0,none⟩ (.int .i64 x.f0)).setCell ⟨g12,1,none⟩ (.int .i64 x.f1)).setCell ⟨g12,2,none⟩ (.int .i64 x.f2)).setCell ⟨g12,3,none⟩ (.slice B3 x.f3.length d3)).setCell ⟨g12,4,none⟩ (.int .i64 x.f4)).setCell ⟨g12,5,none⟩ (.int .i64 x.f5)).setCell ⟨g12,6,none⟩ (.int .i64 x.f6)).setCell ⟨g12,7,none⟩ (.slice B7 x.f7.length d7))):=⟨LiveRunW.put47_below (below_step HB10.out HB12.out) (Nat.le_trans HB10.out.size HG12.out) _ _ _ _ _ _ _ _⟩;have BX:Aside0 (Below w10.heap.size w10 ((((((((w12.setCell ⟨g12,0,none⟩ (.int .i64 x.f0)).setCell ⟨g12,1,none⟩ (.int .i64 x.f1)).setCell ⟨g12,2,none⟩ (.int .i64 x.f2)).setCell ⟨g12,3,none⟩ (.slice B3 x.f3.length d3)).setCell ⟨g12,4,none⟩ (.int .i64 x.f4)).setCell ⟨g12,5,none⟩ (.int .i64 x.f5)).setCell ⟨g12,6,none⟩ (.int .i64 x.f6)).setCell ⟨g12,7,none⟩ (.slice B7 x.f7.length d7))):=⟨LiveRunW.put47_below HB12.out HG12.out _ _ _ _ _ _ _ _⟩;refine Kd.R_append k47 (w0:=wo) wo.heap.size rfl (.tmp 47) (.tmp 49) 41 47 (.agg #[(.int .i64 0),(.int .i64 0),(.int .i64 0),(.slice none 0 0),(.int .i64 0),(.int .i64 0),(.int .i64 0),(.slice none 0 0)]) 96 rfl Try.underlying41 info47 rfl (by decide) (by omega) (.slice Ai zs.length ci) zs x [.int .i64 x.f0,.int .i64 x.f1,.int .i64 x.f2,.slice B3 x.f3.length d3,.int .i64 x.f4,.int .i64 x.f5,.int .i64 x.f6,.slice B7 x.f7.length d7] (fun _=>True) (fun k=>w9.heap.size≤k) rfl (show _=Value.slice (some ⟨((((((((w12.setCell ⟨g12,0,none⟩ (.int .i64 x.f0)).setCell ⟨g12,1,none⟩ (.int .i64 x.f1)).setCell ⟨g12,2,none⟩ (.int .i64 x.f2)).setCell ⟨g12,3,none⟩ (.slice B3 x.f3.length d3)).setCell ⟨g12,4,none⟩ (.int .i64 x.f4)).setCell ⟨g12,5,none⟩ (.int .i64 x.f5)).setCell ⟨g12,6,none⟩ (.int .i64 x.f6)).setCell ⟨g12,7,none⟩ (.slice B7 x.f7.length d7)).heap.size,0,none⟩) 1 1 by rw [show ((((((((w12.setCell ⟨g12,0,none⟩ (.int .i64 x.f0)).setCell ⟨g12,1,none⟩ (.int .i64 x.f1)).setCell ⟨g12,2,none⟩ (.int .i64 x.f2)).setCell ⟨g12,3,none⟩ (.slice B3 x.f3.length d3)).setCell ⟨g12,4,none⟩ (.int .i64 x.f4)).setCell ⟨g12,5,none⟩ (.int .i64 x.f5)).setCell ⟨g12,6,none⟩ (.int .i64 x.f6)).setCell ⟨g12,7,none⟩ (.slice B7 x.f7.length d7)).heap.size=w12.heap.size by simp];rfl) ?aP ?aK ?aF (Kd.R_below HV9.out BW.out) (below_step HB9.out BW.out) (below_step HB9.out BW.out).size HLE.out ?_;(case aP=>exact k47_mkM _ _ _ x (Kd.R_lower (Kd.R_below (Kd.R_reok rfl HO3.out (fun b hb=>Kd.R_base HO3.out b hb)) BX.out) HB9.out.size) (Kd.R_lower (Kd.R_below (Kd.R_mono (Kd.R_bound HO7.out) (fun _ hk=>hk.2.1)) BX.out) HB9.out.size));(case aK=>intro k hk;exact ⟨trivial,fun he=>by have:=Kd.R_lt HV9.out k he.symm;omega⟩);(case aF=>exact fun _ _=>trivial);intro v10 w11 ho hb hg hat;have HP:=ak ho;have HPB:=ak hb;clear ho hb hg hat z0 z1 z2 z3 z4 z5 z6 z7 y0 y1 y2 y3 y4 y5 y6 y7))
      go_roundw
      case rel=>exact ⟨i+1,by have:=HLI.out;omega,by go_num,HPB,⟨by rw [HPS.out,if_pos HFI1.out];exact HP.out⟩⟩
      case measure=>simp [intOf];omega
    ·obtain rfl:i=ins.length:=by omega
     have hps:pickTo ins FK ins.length=strip iOf ins E:=pick_strip ins E FK (fun i hi=>HFK.out i);rw [hps] at HV6 ⊢;generalize strip iOf ins E=zs at HV6 HRB ⊢;clear hps hlti hi u0 u1;obtain ⟨c,hcl,hcM,hcc,hcf⟩:=Kd.R_elem HRN.out.own z43 (b:Int) (by omega) hbi;simp only [Int.toNat_natCast] at hcM hcc hcf;rw [HMG.out] at hcM;obtain ⟨vI,vN,rfl,hrI,hrN⟩:=k43_openM hcM;have HRX:=ak hrN;have HCC:=ak hcc;have HCL:=ak hcl;have t2:wr.cell? ⟨g4,2,none⟩=some (.slice (some ⟨gd,0,none⟩) bs.length cd):=(blk_cell HRN.out.b4 2).trans rfl;clear hcl hcM hcc hcf hrI hrN
     go_wp2_with (first
      |((with_reducible refine gate_store (t:=41) (p:=56) (v:= .tmp 54) rfl ?_);refine Kd.R_store k43 (w0:=wF) wF.heap.size rfl rfl 41 (.tmp 56) (.tmp 54) rfl 43 (g:=gd) (n:=bs.length) (cap:=cd) (b:Int) 1 (mixed bs V b) (⟨pc,zs,nx⟩:S43) (.slice Ai zs.length ci) [.slice Ai zs.length ci] [.int .i64 pc,vI,vN] (fun k=>k≠g4) (fun k=>k≠g4∧k≠gd) rfl ?off rfl rfl (by kernel_rfl) ?one HRN.out.own (by omega) hbi HCL.out (fun j u hj=>by rw [Int.toNat_natCast];exact HCC.out j u hj) (show 1+1≤3 by omega) ?M ?okp HRN.out.below ?_;(case off=>first |rfl |(simp [add_plain];done) |(simp [add_plain];rfl));(case one=>intro q hq;rw [List.mem_singleton] at hq;subst hq;rfl);(case M=>exact k43_mkM _ _ _ (⟨pc,zs,nx⟩:S43) (Kd.R_lower (Kd.R_mono (Kd.R_bound HV6.out) (fun k hk=>⟨by have:=blk_lt HR.out.b4;have:=hk.2.1;omega,by have:=HGD.out;have:=hk.2.1;omega⟩)) HR.out.below.size) HRX.out);(case okp=>exact fun k hk=>hk);intro w5 ho hb5 hg5;have HO5:=ak ho;have HB5:=ak hb5;have HG5:=ak hg5;clear ho hb5 hg5))
     go_roundw
     case rel =>
      refine ⟨b+1,by have:=HBL.out;omega,by go_num,⟨⟨HB5.out,blk_grown HRN.out.b4 HG5.out (fun he=>?_),?_,HRN.out.l4⟩⟩⟩
      ·injection he with he;exact HRN.out.own.1 g4 (by rw [he];rfl) rfl
      ·have h:=HO5.out;rw [Int.toNat_natCast,←HRB.out,HMS.out] at h;exact h
     case measure=>simp [intOf];omega
  ·obtain rfl:b=bs.length:=by omega
   have htk:mixed bs V bs.length=runBs bs V:=by
    unfold mixed;rw [List.take_of_length_le (by rw [runBs_length];omega),List.drop_length,List.append_nil]
   rw [htk] at HR;have t0:wr.cell? ⟨g4,0,none⟩=some (.int .i64 fn):=(blk_cell HR.out.b4 0).trans rfl;have t1:wr.cell? ⟨g4,1,none⟩=some (.int .i64 rg):=(blk_cell HR.out.b4 1).trans rfl;have t2:wr.cell? ⟨g4,2,none⟩=some (.slice Ad bs.length cd):=(blk_cell HR.out.b4 2).trans rfl;have HA2w:=ak ((HR.out.below.block g2 (blk_lt HA2F.out)).trans HA2F.out);have z0:wr.cell? ⟨g2,0,none⟩=some (.int .i64 0):=qj HA2w 0;have z1:wr.cell? ⟨g2,1,none⟩=some (.int .i64 0):=qj HA2w 1;have z2:wr.cell? ⟨g2,2,none⟩=some (.slice none 0 0):=qj HA2w 2
   have f0:=ql HA2w 0;have f1:=ql HA2w 1;have f2:=ql HA2w 2;clear u0 u1 hb;have HRL:=ak (runBs_length bs V)
   go_wp2_with fail
   refine bodyPost_ret (results_cell_row rfl _ _ g2 24 #[.int .i64 fn,.int .i64 rg,.slice Ad bs.length cd] (0,0) _ rfl (blk_put (blk_put (blk_put HA2w.out 0 _ rfl) 1 _ rfl) 2 _ rfl) Try.underlying24 rfl (by kernel_rfl)) rfl ?_;have hbw:=below_step HBF.out HR.out.below;have hne:∀ k,k≠g4∧wF.heap.size≤k→k≠g2:=fun k hk=>by have:=blk_lt HA2F.out;omega
   have ho:Kd.R k43 43 wr wF.heap.size (fun k=>k≠g4∧wF.heap.size≤k) (.slice Ad bs.length cd) (runBs bs V):=Kd.R_mono (Kd.R_bound HR.out.own) (fun k hk=>⟨hk.1,hk.2.1⟩);exact ⟨_,rfl,Kd.R_lower (Kd.R_mono (Kd.R_far (Kd.R_far (Kd.R_far ho hne _) hne _) hne _) (fun _ _=>trivial)) HBF.out.size,below_set (below_set (below_set hbw HG2.out) HG2.out) HG2.out⟩
end Go.Proofs.Ytklknkfoafdgpaa.LiveRefR
namespace Go.Proofs.Ytklknkfoafdgpaa.LiveRunS
open RowKit YtklknkfoafdgpaaW.PrintWords YtklknkfoafdgpaaW.PrintLast YtklknkfoafdgpaaW.PrintMore
open PLiveKnown LiveT LiveB LiveInv LiveSet LiveAhead LiveEnd LiveSettled LiveCopied LiveAft LiveRunP LiveSame LiveFit LiveRefP LiveHandP LiveHandC LiveKept
set_option linter.unusedVariables false
set_option linter.unusedSimpArgs false
section
variable {ops:Array Oper} {o:Oper} {a:Act} {α:Type}
set_option maxRecDepth 100000 in
theorem R_store_skip (d:Kd α) {W:World} {base:Nat} (t:TypeId) (p x:Operand) (ho:o.op= .store t p x) (e:TypeId) {g n cap o':Nat} (i j:Nat) (xs:List α) (u:Value) (seg:List Value) (ok:Nat→Prop)
  (haddr:a.eval p= .pointer (some ⟨g,o',none⟩)) (hoff:o'=i*d.sz+j) (hx:a.eval x=u) (hu:u.cells.toList=seg) (ht:(Try.prog.info? t).map (·.size)=some seg.length) (h1:∀ q∈seg,q.oneCell'=true)
  (HO:d.R e W base ok (.slice (some ⟨g,0,none⟩) n cap) xs) (hi:i<n) (hj:j+seg.length≤d.sz):(execOp a.eval o).run Try.prog W= .ok .skip (W.setCells g (i*d.sz+j) seg):=by
 subst hoff;obtain ⟨_,inner,hown,hr⟩:=HO;have hrun:(Instr.storeAt t (.pointer (some ⟨g,i*d.sz+j,none⟩)) u).run Try.prog W= .ok () (W.setCells g (i*d.sz+j) seg):=by
  rcases hown.2 with ⟨hv,_⟩ |⟨g',cap',cur,hv,hb,hh,hnc,hcm,hcs,_⟩
  ·cases hv
  injection hv with ha _ hc;injection ha with ha;injection ha with hg';subst hg';subst hc;refine run_store_run t u seg hh hu ht ?_ h1;have hnx:n=xs.length:=by
   have:=hown.1;omega
  have h2:i*d.sz+d.sz≤n*d.sz:=by rw [←Nat.succ_mul];exact Nat.mul_le_mul_right _ hi
  have h3:n*d.sz≤cap*d.sz:=Nat.mul_le_mul_right _ (by omega);omega
 unfold execOp;simp only [ho,haddr,hx,Sem.run_bind,Sem.run_pure,Result.andThen_ok,hrun]
end
def put1 (l:List S43) (i k:Nat) (x:S47):List S43:=l.set i ⟨(rd_T43 l i).f0,(rd_T43 l i).f1.set k x,(rd_T43 l i).f2⟩
theorem put1_length (l:List S43) (i k:Nat) (x:S47):(put1 l i k x).length=l.length:=by simp [put1]
theorem rd_put1 (l:List S43) (i k:Nat) (x:S47) (hi:i<l.length) (j:Nat) (hj:j<l.length):rd_T43 (put1 l i k x) j=if j=i then ⟨(rd_T43 l i).f0,(rd_T43 l i).f1.set k x,(rd_T43 l i).f2⟩ else rd_T43 l j:=by
 rw [rd43 _ j (by rw [put1_length];exact hj)];unfold put1;rw [List.getElem_set]
 by_cases h:i=j
 ·subst h
  simp
 ·rw [if_neg h,if_neg (Ne.symm h),rd43 l j hj]
theorem fit_put1 {l:List S43} (h:FitC l) {i k:Nat} {x:S47} (hi:i<l.length) (hx:Fit47 x):FitC (put1 l i k x):=by
 have hl:=put1_length l i k x;refine ⟨by rw [hl];exact h.blocks,fun b hb=>?_,fun b hb=>?_,fun b hb m hm=>?_⟩
 ·rw [hl] at hb;rw [rd_put1 l i k x hi b hb]
  split
  ·simp only [List.length_set];exact h.ins i hi
  ·exact h.ins b hb
 ·rw [hl] at hb;rw [rd_put1 l i k x hi b hb]
  split
  ·exact h.next i hi
  ·exact h.next b hb
 ·rw [hl] at hb;rw [rd_put1 l i k x hi b hb] at hm ⊢
  split at hm
  ·rename_i he
   rw [if_pos he];simp only [List.length_set] at hm
   show Fit47 (rd_T47 ((rd_T43 l i).f1.set k x) m)
   rw [rd47 _ m (by rw [List.length_set];exact hm),List.getElem_set]
   split
   ·exact hx
   ·have:=h.each i hi m hm
    rwa [rd47 _ m hm] at this
  ·rename_i he
   rw [if_neg he];exact h.each b hb m hm
structure LS (w0 wH wB W:World) (g7 g8:Nat) (fn rg:Int) (A:Option Addr) (n c:Nat) (va:Value) (rs:List S43) (cur:List S43):Prop where
 below:Below w0.heap.size w0 W
 s:Kd.S k43 43 W w0.heap.size (fun k=>k<wH.heap.size∨wB.heap.size≤k) (.slice A n c) cur
 a:Kd.R k43 43 W wH.heap.size (fun k=>wH.heap.size≤k∧k<wB.heap.size) va rs
 b7:W.heap[g7]? =some (.cells #[.int .i64 fn,.int .i64 rg,.slice A n c] 24 (0,0))
 b8:W.heap[g8]? =some (.cells #[.int .i64 fn,.int .i64 rg,va] 24 (0,0))
 size:wB.heap.size≤W.heap.size
 fit:FitC cur
 len:n=cur.length
section
variable {w0 wH wB W W1:World} {g7 g8:Nat} {fn rg:Int} {A:Option Addr} {n c:Nat} {va:Value} {rs cur:List S43}
theorem LS.next (h:LS w0 wH wB W g7 g8 fn rg A n c va rs cur) (hb:Below W.heap.size W W1):LS w0 wH wB W1 g7 g8 fn rg A n c va rs cur:=
 ⟨below_step h.below hb,Kd.S_below h.s hb,Kd.R_below h.a hb,(hb.block g7 (blk_lt h.b7)).trans h.b7,(hb.block g8 (blk_lt h.b8)).trans h.b8,Nat.le_trans h.size hb.size,h.fit,h.len⟩
theorem LS.put (h:LS w0 wH wB W g7 g8 fn rg A n c va rs cur) {gI:Nat} {oki:Nat→Prop} {v1 v2:Value} {i k:Nat} {x:S47} {xs:List S47} (hi:i<cur.length)
  (hH:Kd.H k43 43 W w0.heap.size (fun k=>k<wH.heap.size∨wB.heap.size≤k) (.slice A n c) cur (i:Int) oki [.int .i64 (rd_T43 cur i).f0,v1,v2]) (hg:W.grownBy W1 (some gI)) (hown:v1.ownBlock=some gI) (hr1:Kd.R k47 47 W w0.heap.size oki v1 xs)
  (hr:Kd.R k47 47 W1 w0.heap.size oki v1 ((rd_T43 cur i).f1.set k x)) (hr2:Kd.R (Kd.int .i64) 3 W w0.heap.size oki v2 (rd_T43 cur i).f2) (hx:Fit47 x):LS w0 wH wB W1 g7 g8 fn rg A n c va rs (put1 cur i k x):=by
 have ho:oki gI:=hr1.1 gI hown;have hok:=hH.1 gI ho;have hb0:w0.heap.size≤gI:=Kd.R_base hr1 gI hown;obtain ⟨cI,hcI⟩:=Kd.R_typed hr1 gI hown;have hn:∀ g cs,W.heap[g]? =some (.cells cs 24 (0,0))→some g≠some gI:=fun g cs hc he=>by
  injection he with he;subst he;rw [hcI] at hc;injection hc with hc;injection hc with _ hc;cases hc
 have hgo:W.grownBy W1 v1.ownBlock:=by rw [hown];exact hg
 refine ⟨h.below.grown hg h.below.size (fun k hk=>by cases hk;exact hb0),?_,Kd.R_grown h.a hg (fun k hk he=>by injection he with he;subst he;have:=h.size;omega),blk_grown h.b7 hg (hn g7 _ h.b7),blk_grown h.b8 hg (hn g8 _ h.b8),Nat.le_trans h.size hg.size,fit_put1 h.fit hi hx,by rw [put1_length];exact h.len⟩;have hH1:=Kd.H_grown hH hg (fun k hk=>by cases hk;exact ho)
 have hb:=Kd.H_back (x':=⟨(rd_T43 cur i).f0,(rd_T43 cur i).f1.set k x,(rd_T43 cur i).f2⟩) (okp:=oki) hH1 (k43_mkM _ _ _ (⟨(rd_T43 cur i).f0,(rd_T43 cur i).f1.set k x,(rd_T43 cur i).f2⟩:S43) hr (Kd.R_over hr2 hr1 (by decide) hgo)) (fun k hk=>hk);exact hb
theorem LS.lend {ad:Addr} (h:LS w0 wH wB W g7 g8 fn rg (some ad) n c va rs cur) {i:Nat} (hi:i<cur.length):∃ vI vN oki,W.cell? ⟨(ad.add (i*3)).block,(ad.add (i*3)).off+1,none⟩=some vI∧Kd.R k47 47 W w0.heap.size oki vI (rd_T43 cur i).f1∧Kd.R (Kd.int .i64) 3 W w0.heap.size oki vN (rd_T43 cur i).f2
  ∧Kd.H k43 43 W w0.heap.size (fun k=>k<wH.heap.size∨wB.heap.size≤k) (.slice (some ad) n c) cur (i:Int) oki [.int .i64 (rd_T43 cur i).f0,vI,vN]:=by
 obtain ⟨g,cap,hv,_⟩:=Kd.R_form (Kd.S_R h.s) (Nat.lt_of_le_of_lt (Nat.zero_le _) hi);injection hv with ha hn hc;injection ha with ha;subst ha;obtain ⟨oki,cs,hcl,hcM,hcc,hok,hH⟩:=Kd.S_lend h.s z43 (i:Int) (by omega) (by rw [h.len];omega);obtain ⟨vI,vN,rfl,hrI,hrN⟩:=k43_openM hcM;have hc1:=hcc 1 vI rfl;rw [Int.toNat_natCast] at hc1;exact ⟨vI,vN,oki,by rw [add_plain];exact hc1,hrI,hrN,hH⟩
theorem LS.write {ad ad1:Addr} {vN v3 v7:Value} {oki:Nat→Prop} {i k cI:Nat} {x:S47} (h:LS w0 wH wB W g7 g8 fn rg (some ad) n c va rs cur) (hi:i<cur.length) (hk:k<(rd_T43 cur i).f1.length)
  (hI:Kd.R k47 47 W w0.heap.size oki (.slice (some ad1) (rd_T43 cur i).f1.length cI) (rd_T43 cur i).f1) (hN:Kd.R (Kd.int .i64) 3 W w0.heap.size oki vN (rd_T43 cur i).f2)
  (hH:Kd.H k43 43 W w0.heap.size (fun k=>k<wH.heap.size∨wB.heap.size≤k) (.slice (some ad) n c) cur (i:Int) oki [.int .i64 (rd_T43 cur i).f0,.slice (some ad1) (rd_T43 cur i).f1.length cI,vN])
  (hb:Below W.heap.size W W1) (hx:Fit47 x) (h3:Kd.R k82 82 W1 W.heap.size (fun _=>True) v3 x.f3) (h7:Kd.R k78 78 W1 W.heap.size (fun k=>some k≠v3.ownBlock) v7 x.f7) :
  ∃ W2,(∀ {o:Oper} {a:Act} (p q:Operand),o.op= .store 47 p q→a.eval p= .pointer (some (ad1.add (k*8)))→a.eval q= .agg (row47 x v3 v7)→(execOp a.eval o).run Try.prog W1= .ok .skip W2)∧LS w0 wH wB W2 g7 g8 fn rg (some ad) n c va rs (put1 cur i k x):=by
 obtain ⟨gI,cap,hv,_,hlt,_⟩:=Kd.R_form hI (Nat.lt_of_le_of_lt (Nat.zero_le _) hk);injection hv with ha hn hc;injection ha with ha;subst ha;have hgk:gI<W.heap.size:=hlt;have hI1:Kd.R k47 47 W1 w0.heap.size (fun k=>oki k∨(k<wH.heap.size∨wB.heap.size≤k)∧W.heap.size≤k) (.slice (some ⟨gI,0,none⟩) (rd_T43 cur i).f1.length cI) (rd_T43 cur i).f1:=Kd.R_mono (Kd.R_below hI hb) (fun _ hk=> .inl hk)
 have hN1:Kd.R (Kd.int .i64) 3 W1 w0.heap.size (fun k=>oki k∨(k<wH.heap.size∨wB.heap.size≤k)∧W.heap.size≤k) vN (rd_T43 cur i).f2:=Kd.R_mono (Kd.R_below hN hb) (fun _ hk=> .inl hk);have hH1:=Kd.H_below (Kd.H_widen hH) hb;have hrow:(row47 x v3 v7).toList.length=8:=rfl;obtain ⟨cs,hcl,_,hcc,_⟩:=Kd.R_elem hI1 z47 (k:Int) (by omega) (by omega);have hsz:k47.sz=8:=rfl;have hM:k47.M W1 w0.heap.size (fun k=>W.heap.size≤k) x (cs.take 0++(row47 x v3 v7).toList++cs.drop (0+(row47 x v3 v7).toList.length)):=by
  rw [hrow,Nat.zero_add,List.drop_of_length_le (by rw [hcl,hsz];omega),List.take_zero,List.nil_append,List.append_nil];exact k47_mkM _ _ _ x (Kd.R_lower (Kd.R_reok rfl h3 (fun b hb=>Kd.R_base h3 b hb)) h.below.size) (Kd.R_lower (Kd.R_mono (Kd.R_bound h7) (fun _ hk=>hk.2.1)) h.below.size)
 obtain ⟨h2,h4⟩:=Kd.R_seg hI1 (k:Int) (by omega) (by omega) (j:=0) (seg:=(row47 x v3 v7).toList) (okp:=fun k=>W.heap.size≤k) hcl hcc (by rw [hrow,hsz];omega) hM (fun q hq=>⟨.inr ⟨.inr (by have:=h.size;omega),hq⟩,by omega⟩);rw [Int.toNat_natCast] at h2 h4;refine ⟨W1.setCells gI (k*k47.sz+0) (row47 x v3 v7).toList,fun {o a} p q ho hp hq=>?_,LS.put (h.next hb) hi hH1 h4 (by rfl) hI1 h2 hN1 hx⟩
 refine R_store_skip k47 47 p q ho 47 k 0 (rd_T43 cur i).f1 (.agg (row47 x v3 v7)) (row47 x v3 v7).toList _ (by rw [hp,add_plain]) (by rw [hsz,Nat.add_zero]) hq rfl (by kernel_rfl) ?_ hI1 hk (by rw [hrow,hsz];omega);intro u hu;exact k47.K_one (k47.K_of_M hM) u (List.mem_append_left _ (List.mem_append_right _ hu))
end
end Go.Proofs.Ytklknkfoafdgpaa.LiveRunS
