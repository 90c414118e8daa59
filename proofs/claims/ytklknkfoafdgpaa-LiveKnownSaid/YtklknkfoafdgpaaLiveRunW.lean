import Derived.Test.YtklknkfoafdgpaaLiveKn
namespace Go.Proofs.Ytklknkfoafdgpaa.LiveRunW
set_option maxHeartbeats 8000000
set_option maxRecDepth 100000
open RowKit YtklknkfoafdgpaaW.PrintWords YtklknkfoafdgpaaW.PrintLast YtklknkfoafdgpaaW.PrintMore
open PLiveKnown LiveT LiveB LiveSet LiveAhead LiveEnd LiveInv LiveSettled LiveCopied LiveAft LiveRunP
set_option linter.unusedVariables false
set_option linter.unusedSimpArgs false
theorem zero_event {ops:Array Oper} {rest:List Oper} {o:Oper} {a:Act} {Q:Exit→Act→World→Prop} {W:World} (t:Nat) (cs:Array Value) (hgd:o.guard=none) {N:Tmp} (_hd:o.dst=some N) (hrun:(execOp a.eval o).run Try.prog W= .ok (.value (.pointer (some ⟨W.heap.size,0,none⟩))) (W.alloc (.cells cs t (0,0))))
  (h:∀ g w1,W.heap.size≤g→w1.heap[g]? =some (.cells cs t (0,0))→Below W.heap.size W w1→wpList Try.prog ops Q rest (a.put o.dst (.pointer (some ⟨g,0,none⟩))) w1):wpList Try.prog ops Q (o::rest) a W:=
 box_event hgd (N:=N) _hd hrun (fun g hg w1 h1 h2=>h g w1 (Nat.le_of_eq hg.symm) h1 h2)
theorem made_event {ops:Array Oper} {rest:List Oper} {o:Oper} {a:Act} {Q:Exit→Act→World→Prop} {W:World} (n:Nat) (hgd:o.guard=none) {N:Tmp} (_hd:o.dst=some N) (hrun:(execOp a.eval o).run Try.prog W= .ok (.value (.slice (some ⟨W.heap.size,0,none⟩) n n)) (W.alloc (.cells (madeB n) 4)))
  (h:∀ g w1,W.heap.size≤g→KS w1 g n (fun _=>false)→Below W.heap.size W w1→wpList Try.prog ops Q rest (a.put o.dst (.slice (some ⟨g,0,none⟩) n n)) w1):wpList Try.prog ops Q (o::rest) a W:=
 Kd.event_run hgd hrun (h _ _ (Nat.le_refl _) (ks_made _ _ _ (blk_new W _)) (below_alloc (Below.refl _ _) _))
def r16_13_T:Bool×List (List Nat×List Nat):=(true,[([],[]),([0],[0]),([],[]),([2],[2]),([3],[3]),([1,4],[1,4]),([],[]),([6,5,4,0,1,2,3,4,5,6],[5,6])])
def r16_13_B:List Nat:=[0,1,0,4,12,31,0,127]
theorem r16_13_tab:rtab .any (opsOf Try.f16 13)=r16_13_T:=by kernel_rfl
theorem r16_13_bits:waitsOk r16_13_T.2 r16_13_B=true:=by kernel_rfl
def r16_18_T:Bool×List (List Nat×List Nat):=(true,[([],[]),([0],[0]),([],[]),([2],[2]),([3],[3]),([1,4,3],[1,4]),([0,1,2,3,4,5],[]),([6,5,5,0,1,2,3,4,5],[5,6])])
def r16_18_B:List Nat:=[0,1,0,4,12,31,63,127]
theorem r16_18_tab:rtab .any (opsOf Try.f16 18)=r16_18_T:=by kernel_rfl
theorem r16_18_bits:waitsOk r16_18_T.2 r16_18_B=true:=by kernel_rfl
theorem put47_below {W w12:World} {g:Nat} (hb:Below W.heap.size W w12) (hg:W.heap.size≤g) (b0 b1 b2 b3 b4 b5 b6 b7:Value):Below W.heap.size W ((((((((w12.setCell ⟨g,0,none⟩ b0).setCell ⟨g,1,none⟩ b1).setCell ⟨g,2,none⟩ b2).setCell ⟨g,3,none⟩ b3).setCell ⟨g,4,none⟩ b4).setCell ⟨g,5,none⟩ b5).setCell ⟨g,6,none⟩ b6).setCell ⟨g,7,none⟩ b7):=
 below_set (below_set (below_set (below_set (below_set (below_set (below_set (below_set hb hg) hg) hg) hg) hg) hg) hg) hg
theorem nw_first {wr w5:World} {gk n:Nat} {fk:Nat→Bool} {An:Option Addr} {cn:Nat} {nx:List Int} (hb:Below wr.heap.size wr w5) (ho:Kd.R (Kd.int .i64) 3 w5 wr.heap.size (fun _=>True) (.slice An nx.length cn) nx) (hK:KS wr gk n fk) (pc:Int) :
  NW wr (w5.alloc (.cells #[.int .i64 pc,.slice none 0 0,.slice An nx.length cn] 43)) gk w5.heap.size n fk pc (.slice none 0 0) (.slice An nx.length cn) [] nx:=by
 have h5:Below w5.heap.size w5 (w5.alloc (.cells #[.int .i64 pc,.slice none 0 0,.slice An nx.length cn] 43)):=below_alloc (Below.refl _ w5) _;have hbb:=below_step hb h5;exact ⟨hbb,blk_new w5 _,Kd.R_nil _ _ _ _ _,Kd.R_reok rfl (Kd.R_below ho h5) (fun b hb=>hb),fun k hk=>Nat.ne_of_lt (Kd.R_lt ho k hk),ks_below hK hbb,ks_lt hK,hb.size⟩
theorem nw_second {wr W2 w5:World} {gk n:Nat} {fk:Nat→Bool} {An:Option Addr} {cn:Nat} {nx:List Int} (h2:Below wr.heap.size wr W2) (hb:Below wr.heap.size wr w5) (hg:(W2.alloc (.cells #[.int .i64 0,.slice none 0 0,.slice none 0 0] 43)).grownBy w5 none) (ho:Kd.R (Kd.int .i64) 3 w5 wr.heap.size (fun k=>k≠W2.heap.size) (.slice An nx.length cn) nx) (hK:KS wr gk n fk) (pc:Int) :
  NW wr (((w5.setCell ⟨W2.heap.size,0,none⟩ (.int .i64 pc)).setCell ⟨W2.heap.size,1,none⟩ (.slice none 0 0)).setCell ⟨W2.heap.size,2,none⟩ (.slice An nx.length cn)) gk W2.heap.size n fk pc (.slice none 0 0) (.slice An nx.length cn) [] nx:=by
 have hs:(W2.alloc (.cells #[.int .i64 0,.slice none 0 0,.slice none 0 0] 43)).heap.size=W2.heap.size+1:=by simp
 have h10:w5.heap[W2.heap.size]? =some (.cells #[.int .i64 0,.slice none 0 0,.slice none 0 0] 43 (0,0)):=(hg.block _ (by rw [hs];omega) (by simp)).trans (blk_new W2 _);have hbb:Below wr.heap.size wr (((w5.setCell ⟨W2.heap.size,0,none⟩ (.int .i64 pc)).setCell ⟨W2.heap.size,1,none⟩ (.slice none 0 0)).setCell ⟨W2.heap.size,2,none⟩ (.slice An nx.length cn)):=below_set (below_set (below_set hb h2.size) h2.size) h2.size
 exact ⟨hbb,blk_put (blk_put (blk_put h10 0 _ rfl) 1 _ rfl) 2 _ rfl,Kd.R_nil _ _ _ _ _,Kd.R_reok rfl (Kd.R_far (Kd.R_far (Kd.R_far ho (fun _ hk=>hk) _) (fun _ hk=>hk) _) (fun _ hk=>hk) _) (fun b hb=>hb),fun k hk=>ho.1 k hk,ks_below hK hbb,ks_lt hK,h2.size⟩
theorem run_calls (fn rg:Int) (Ab:Option Addr) (cb:Nat) (bs:List S43) (V:Nat→RS) (w:World) (hC:Kd.C k43 w Ab bs.length bs) (hf:FitC bs) (hV:Lfp (codeOf bs) V) :
  Calls Try.prog 16 #[.agg #[.int .i64 fn,.int .i64 rg,.slice Ab bs.length cb]] w fun e w'=>∃ v,e= .returned (.agg #[.int .i64 fn,.int .i64 rg,v])∧Kd.R k43 43 w' w.heap.size (fun _=>True) v (runBs bs V)∧Below w.heap.size w w':=by
 have HC:=ak hC;have HFT:=ak hf;have HV:=ak hV;have HN:Aside0 (bs.length*64≤281474976710656):=⟨by have:=hf.blocks;omega⟩
 clear hC hf hV
 go_enter Try.func16,Try.ntmps16
 go_wp2_with (first
  |((with_reducible refine gate_dst (N:=1) rfl ?_);refine zero_event 24 #[.int .i64 fn,.int .i64 rg,.slice Ab bs.length cb] rfl rfl qb ?_;intro g1 w1 hg1 hA1 hb1;have HG1:=ak hg1;have HA1:=ak hA1;have HB1:=ak hb1;clear hg1 hA1 hb1)
  |((with_reducible refine gate_dst (N:=2) rfl ?_);refine zero_event 24 #[.int .i64 0,.int .i64 0,.slice none 0 0] rfl rfl qb ?_;intro g2 w2 hg2 hA2 hb2;have HG2:=ak (Nat.le_trans HB1.out.size hg2);have HA2:=ak hA2;have HB2:=ak (below_step HB1.out hb2);have HA12:=ak ((hb2.block g1 (blk_lt HA1.out)).trans HA1.out);have u0:w2.cell? ⟨g1,0,none⟩=some (.int .i64 fn):=(qj HA12 0);have u1:w2.cell? ⟨g1,1,none⟩=some (.int .i64 rg):=(qj HA12 1);have u2:w2.cell? ⟨g1,2,none⟩=some (.slice Ab bs.length cb):=(qj HA12 2);clear hg2 hA2 hb2)
  |(go_at_call 28;refine (settled_calls fn rg Ab cb bs _ (Kd.C_below HC.out HB2.out) HN.out).mono ?_;rintro e w3 ⟨gf,gw,V1,rfl,hb3,hfl,hlf⟩;have HB3:=ak (below_step HB2.out hb3);have HFL:=ak hfl;have HLF:=ak hlf;have HA23:=ak ((hb3.block g2 (blk_lt HA2.out)).trans HA2.out);replace u0:=pw_cell_below hb3 u0;replace u1:=pw_cell_below hb3 u1;replace u2:=pw_cell_below hb3 u2;clear hb3 hfl hlf)
  |((with_reducible refine gate_dst (N:=4) rfl ?_);refine zero_event 24 #[.int .i64 0,.int .i64 0,.slice none 0 0] rfl rfl qb ?_;intro g4 w4 hg4 hA4 hb4;have HG4:=ak hg4;have HA4:=ak hA4;have HB4:=ak (below_step HB3.out hb4);have HFL4:=ak (HFL.out.below hb4);have HA24:=ak ((hb4.block g2 (blk_lt HA23.out)).trans HA23.out);have z0:w4.cell? ⟨g4,0,none⟩=some (.int .i64 0):=(qj HA4 0);have z1:w4.cell? ⟨g4,1,none⟩=some (.int .i64 0):=(qj HA4 1);have z2:w4.cell? ⟨g4,2,none⟩=some (.slice none 0 0):=(qj HA4 2);have y0:=ql HA4 0;have y1:=ql HA4 1;have y2:=ql HA4 2;have hne:¬ g1=g4:=(by have h2:=World.block_lt_of_cell? _ _ u2;exact Nat.ne_of_lt (Nat.lt_of_lt_of_le h2 hg4));replace u2:=pw_cell_below hb4 u2;clear hg4 hA4 hb4))
 have H0:Aside0 (RW w (((w4.setCell ⟨g4,0,none⟩ (.int .i64 fn)).setCell ⟨g4,1,none⟩ (.int .i64 rg)).setCell ⟨g4,2,none⟩ (.slice none 0 0)) g1 g2 g4 gf gw fn rg Ab cb bs V1 (.slice none 0 0) ((runBs bs V).take 0)):=⟨by
  have e2:g2<w3.heap.size:=blk_lt HA23.out;have ef:gf<w3.heap.size:=blk_lt HFL.out.blk;have ew:gw<w3.heap.size:=ws_lt HFL.out.ws;have h4:=HG4.out;have l4:w.heap.size≤g4:=Nat.le_trans HB3.out.size h4;have hb:=below_set (v:= .slice none 0 0) (j:=2) (below_set (v:= .int .i64 rg) (j:=1) (below_set (v:= .int .i64 fn) (j:=0) HB4.out l4) l4) l4
  have hbl:Below w3.heap.size w4 (((w4.setCell ⟨g4,0,none⟩ (.int .i64 fn)).setCell ⟨g4,1,none⟩ (.int .i64 rg)).setCell ⟨g4,2,none⟩ (.slice none 0 0)):=(((Below.refl _ w4).setCell (p:=⟨g4,0,none⟩) h4 _).setCell (p:=⟨g4,1,none⟩) h4 _).setCell (p:=⟨g4,2,none⟩) h4 _
  refine ⟨hb,blk_far (blk_far (blk_far HA24.out (by show g2≠g4;omega) _) (by show g2≠g4;omega) _) (by show g2≠g4;omega) _,blk_put (blk_put (blk_put HA4.out 0 _ rfl) 1 _ rfl) 2 _ rfl,⟨blk_far (blk_far (blk_far HFL4.out.blk (by show gf≠g4;omega) _) (by show gf≠g4;omega) _) (by show gf≠g4;omega) _,Kd.C_below HC.out hb,?_,HFL4.out.regs⟩,Kd.R_nil _ _ _ _ _,by omega,by omega,by omega,HG2.out,l4⟩
  exact ws_grown (ws_grown (ws_grown HFL4.out.ws (grown_set _ _ _ _) (by intro he;cases he;omega)) (grown_set _ _ _ _) (by intro he;cases he;omega)) (grown_set _ _ _ _) (by intro he;cases he;omega)⟩
 clear HG1 HA1 HB1 HG2 HA2 HB2 HA12 u0 u1 u2 HB3 HFL HA23 HG4 HA4 HB4 HFL4 HA24 z0 z1 z2 y0 y1 y2 hne;have hmx:bs.length≤9223372036854775807:=Kd.C_max HC.out
 go_loopw [23] (fun v23 wi=>∃ (b:Nat) (v:Value),b≤bs.length∧v23= .int .i64 b∧Aside0 (RW w wi g1 g2 g4 gf gw fn rg Ab cb bs V1 v ((runBs bs V).take b))) (fun v23 _=>bs.length-(intOf v23).toNat)
 case atStart=>exact ⟨0,_,by omega,rfl,H0⟩
 case round =>
  clear H0;obtain ⟨b,v,hb,rfl,HR⟩:=hrel;obtain ⟨Av,cv,hv⟩:=Kd.R_slice HR.out.own;subst hv
  by_cases hlt:b<bs.length
  ·have HST:=ak (runBs_take bs V b hlt);have HBL:=ak hlt;obtain ⟨ad,A1,c1,A2,c2,e,hx0,hx1,hx2,l1,hg1,l2,hg2⟩:=rd_block HC.out HR.out.below b hlt;subst e;have hfi:=HFT.out.ins b hlt;have hfn:=HFT.out.next b hlt;have HFE:=ak (HFT.out.each b hlt);have hbi:(b:Int)<bs.length:=by omega
   have HLEN:Aside0 (((runBs bs V).take b).length=b):=⟨by rw [List.length_take,runBs_length];omega⟩
   generalize (runBs bs V).take b=ys at HR HST HLEN;have hE0:=(endd_congr (nb:=bs.length) (rd_T43 bs b).f2 (fun n hn=>HLF.out.unique HV.out (by rw [show (LiveT.abs iOf (bs.map fun b=>(b.f1,b.f2))).length=bs.length from codeOf_length bs];exact hn)):endd bs.length V1 (rd_T43 bs b).f2=endd bs.length V (rd_T43 bs b).f2)
   have hER:Regs (endd bs.length V (rd_T43 bs b).f2):=endd_regs _ (fun n hn=>HV.out.regs (by rw [codeOf_length];exact hn));have HEC:Aside0 (∀ W,Flow W gf fn rg (some ad) cb gw bs V1→Calls Try.prog 29 #[.pointer (some ⟨gf,0,none⟩),.int .i64 b] W fun e w'=>e= .returned (setV (endd bs.length V (rd_T43 bs b).f2))∧Below W.heap.size W w'):=⟨fun W hW=>by rw [←hE0];exact end_calls gf fn rg (some ad) cb gw bs V1 b HBL.out W hW⟩
   generalize rd_T43 bs b=B at *;obtain ⟨pc,ins,nx⟩:=B;simp only at hx0 hx1 hx2 l1 hg1 l2 hg2 hfi hfn hE0 hER;have HST:Aside0 ((runBs bs V).take (b+1)=ys++[⟨pc,strip iOf ins (endd bs.length V nx),nx⟩]):=⟨HST.out⟩
   have HFE:Aside0 (∀ i,i<ins.length→Fit47 (rd_T47 ins i)):=⟨HFE.out⟩
   have HEC:Aside0 (∀ W,Flow W gf fn rg (some ad) cb gw bs V1→Calls Try.prog 29 #[.pointer (some ⟨gf,0,none⟩),.int .i64 b] W fun e w'=>e= .returned (setV (endd bs.length V nx))∧Below W.heap.size W w'):=⟨HEC.out⟩
   generalize endd bs.length V nx=E at *;have HER:=ak hER;clear hE0 hER;have HL2:=ak l2;have HI1:=ak hg1;have HN2:=ak hg2;have hmx1:ins.length≤9223372036854775807:=Kd.C_max hg1;have hmk:=makeB_run ins.length (by omega);have hE2:Aside0 (∀ m,Regs (back ((ins.drop m).map iOf) E)):=⟨fun m=>back_regs _ HER.out⟩
   have HRI:Aside0 (∀ m,m<ins.length→∃ ad3 A3 c3 A7 c7,A1=some ad3∧InsAt w (ad3.add (m*8)) (rd_T47 ins m) A3 c3 A7 c7∧RIn w (rd_T47 ins m) A3 c3 A7 c7):=⟨fun m hm=>rd_ins HI1.out m hm⟩
   have HFI:=ak hfi;have HBD:Aside0 (∀ m,m<ins.length→back ((ins.drop m).map iOf) E=LiveT.ahead (iOf (rd_T47 ins m)) (back ((ins.drop (m+1)).map iOf) E)):=⟨fun m hm=>back_drop _ E m hm⟩
   obtain ⟨FK,hFK⟩:∃ FK:Nat→Bool,∀ i,FK i= !idle (iOf (rd_T47 ins i)) (back ((ins.drop (i+1)).map iOf) E):=⟨_,fun _=>rfl⟩
   have HFK:=ak hFK;clear hFK;clear l1 hg1 l2 hg2 hlt
   go_wp2_with (first
    |((with_reducible refine gate_dst (N:=6) rfl ?_);refine zero_event 43 #[.int .i64 0,.slice none 0 0,.slice none 0 0] rfl rfl qb ?_;intro g6 w5 hg6 hA6 hb5;have HG6:=ak hg6;have HA6:=ak (blk_put (blk_put (blk_put hA6 0 (.int .i64 pc) rfl) 1 (.slice A1 ins.length c1) rfl) 2 (.slice A2 nx.length c2) rfl);have HB5:=ak (below_set (v:= .slice A2 nx.length c2) (j:=2) (below_set (v:= .slice A1 ins.length c1) (j:=1) (below_set (v:= .int .i64 pc) (j:=0) hb5 hg6) hg6) hg6);have z0:w5.cell? ⟨g6,0,none⟩=some (.int .i64 0):=(qk hA6 0);have z1:w5.cell? ⟨g6,1,none⟩=some (.slice none 0 0):=(qk hA6 1);have z2:w5.cell? ⟨g6,2,none⟩=some (.slice none 0 0):=(qk hA6 2);have y0:=blk_frozen hA6 0;have y1:=blk_frozen hA6 1;have y2:=blk_frozen hA6 2;replace hx0:=pw_cell_below hb5 hx0;replace hx1:=pw_cell_below hb5 hx1;replace hx2:=pw_cell_below hb5 hx2;clear hg6 hA6 hb5)
    |((with_reducible refine gate_dst (N:=31) rfl ?_);refine made_event ins.length rfl rfl qb ?_;intro gk w6 hgk hK6 hb6;have HGK:=ak hgk;have HK6:=ak hK6;have HB6:=ak (below_step HB5.out hb6);have HA66:=ak ((hb6.block g6 (blk_lt HA6.out)).trans HA6.out);clear hgk hK6 hb6)
    |(go_at_call 29;refine (HEC.out _ (HR.out.fl.below HB6.out)).mono ?_;rintro e w7 ⟨rfl,hb7⟩;have HK7:=ak (ks_below HK6.out hb7);have HA67:=ak ((hb7.block g6 (blk_lt HA66.out)).trans HA66.out);have HB7:=ak (below_step HB6.out hb7);clear hb7)
    |((with_reducible refine gate_dst (N:=8) rfl ?_);refine setAlloc_event rfl rfl rfl ?_;intro gs w8 hgs hA8 hb8;have HL8:Aside0 (LW wr w8 gs gk g6 ins.length none' (fun _=>false) #[.int .i64 pc,.slice A1 ins.length c1,.slice A2 nx.length c2]):=(⟨⟨⟨below_step HB7.out hb8,hA8,Nat.le_trans HB7.out.size hgs⟩,ks_below HK7.out hb8,(hb8.block g6 (blk_lt HA67.out)).trans HA67.out,Nat.ne_of_lt (Nat.lt_of_lt_of_le (ks_lt HK7.out) hgs),Nat.ne_of_lt (Nat.lt_of_lt_of_le (blk_lt HA6.out) HGK.out),Nat.ne_of_lt (Nat.lt_of_lt_of_le (blk_lt HA67.out) hgs),Nat.le_trans HB5.out.size HGK.out⟩⟩);clear hgs hA8 hb8)
    |(refine setStore_event rfl rfl rfl rfl rfl HL8.out.vw.at_ ?_;intro w9 hA9 hg9;have HL9:=ak (HL8.out.putS hA9 hg9);have b1:w9.cell? ⟨g6,1,none⟩=some (.slice A1 ins.length c1):=((blk_cell HL9.out.b6 1).trans rfl);clear hA9 hg9))
   have H0:Aside0 (LW wr w9 gs gk g6 ins.length (back ((ins.drop ins.length).map iOf) E) (fun _=>false) #[.int .i64 pc,.slice A1 ins.length c1,.slice A2 nx.length c2]):=⟨by rw [List.drop_length];exact HL9.out⟩
   clear z0 z1 z2 y0 y1 y2 hx0 hx1 hx2 b1 hmk HL8 HL9 HK6 HK7 HA66 HA67 HB5 HB6 HB7 HA6 HG6 HGK HEC hfi
   go_loopw [9] (fun v9 wi=>∃ (m:Nat) (i1:Int) (fk:Nat→Bool),m≤ins.length∧i1=(m:Int)-1∧v9= .int .i64 i1∧Aside0 (LW wr wi gs gk g6 ins.length (back ((ins.drop m).map iOf) E) fk #[.int .i64 pc,.slice A1 ins.length c1,.slice A2 nx.length c2])∧Aside0 (∀ i,m≤i→i<ins.length→fk i=FK i)) (fun v9 _=>(intOf v9+1).toNat)
   case atStart=>exact ⟨ins.length,(ins.length:Int)-1,_,by omega,rfl,by go_num,H0,⟨fun i h1 h2=>by omega⟩⟩
   case round =>
    clear H0;obtain ⟨m,i1,fk,hm,hi1,rfl,HA,HKF⟩:=hrel
    by_cases h0:m=0
    ·subst h0;have hd:decide (0≤i1)=false:=decide_eq_false (by omega);clear hi1;have b0:wr.cell? ⟨g6,0,none⟩=some (.int .i64 pc):=(blk_cell HA.out.b6 0).trans rfl;have b1:wr.cell? ⟨g6,1,none⟩=some (.slice A1 ins.length c1):=(blk_cell HA.out.b6 1).trans rfl;have b2:wr.cell? ⟨g6,2,none⟩=some (.slice A2 nx.length c2):=(blk_cell HA.out.b6 2).trans rfl
     go_wp2_with fail
     have HR12:=ak (HR.out.next HA.out.vw.below);obtain ⟨HW12,hw12⟩:∃ n,wr.heap.size=n:=⟨_,rfl⟩
     have HWE:=ak hw12;clear hw12;have HK12:=ak HA.out.ks;have HD:Aside0 (Below wr.heap.size wr wr.drew):=⟨below_drew1 (Below.refl _ _)⟩
     have HB0:Aside0 (wr.drew.cell? ⟨g6,0,none⟩=some (.int .i64 pc)):=⟨b0⟩
     have HB2:Aside0 (wr.drew.cell? ⟨g6,2,none⟩=some (.slice A2 nx.length c2)):=⟨b2⟩
     have HB1:Aside0 (wr.drew.cell? ⟨g6,1,none⟩=some (.slice A1 ins.length c1)):=⟨b1⟩
     have HB1w:=ak b1;clear b0 b1 b2 hd HA;refine start_ (n:=8) (S:=fun w'=>w'.cell? ⟨g6,0,none⟩=some (.int .i64 pc)∧w'.cell? ⟨g6,2,none⟩=some (.slice A2 nx.length c2)) (ds:=[7]) (bz 8 0) (by kernel_rfl) rfl rfl ⟨HB0.out,HB2.out⟩ (fun hHeld=>?_);refine with_tabW r16_13_tab r16_13_bits (fun HT_ HW_=>?_);generalize World.drew wr=W2 at HD HB0 HB1 HB2 hHeld ⊢;refine pu 0 61 8 1 ?_;refine pq 2 63 8 5 ?_;refine tk 1 62 8 3 ?_;refine tk 3 64 8 4 ?_
     refine two_ (i:=4) (j:=6) (Ni:=some 65) (Nj:=some 10) (bz 8 5) (bm 8 79) rfl rfl rfl rfl (two_of HT_.out (by kernel_rfl)) (by decide) (by decide) (fun K hK=>?_) (fun K hK=>?_)
     refine Kd.R_append_rows_step (Kd.int .i64) (w0:=wr) wr.heap.size (by rfl) (.const (.slice none 0 0)) (.tmp 64) 25 3 (.int .i64 0) 8 rfl Try.underlying25 infoI rfl (by decide) (by omega) (.slice none 0 0) ([]:List Int) nx _ _ _ (fun _=>True) (fun _=>False) rfl rfl (Kd.R_nil _ _ _ _ _) (Kd.C_below HN2.out (below_step HR12.out.below HD.out)) (fun _ _ h=>h) (fun _ h=>h.elim) (fun _ _=>trivial) HD.out HD.out.size (by simp;omega) ?_;intro vN w5 ho hb hg hat;rw [List.nil_append] at ho;obtain ⟨An,cn,rfl⟩:=Kd.R_slice ho;have HO:=ak ho;have HBX:=ak hb;have HG:=ak hg
     have HC0:=ak ((hg.block g6 (World.block_lt_of_cell? _ _ HB0.out) (by simp [Value.ownBlock])));clear ho hb hg hat;have HQ0:=ak ((show w5.cell? ⟨g6,0,none⟩=some (.int .i64 pc) by rw [World.cell?,HC0.out];exact HB0.out));have HQ2:=ak ((show w5.cell? ⟨g6,2,none⟩=some (.slice A2 nx.length c2) by rw [World.cell?,HC0.out];exact HB2.out));refine hK.out _ _ ⟨HQ0.out,HQ2.out⟩ (fun hHeld=>?_);clear hK K;refine norm_ (a':=?_) ?_ ?_;rotate_left
     ·show Act.put _ (some 65) _=_
      simp only [Act.put,sA,sB,sC,i64_w,i32_w];rfl
     refine pu 5 66 8 6 ?_;refine one_ (i:=6) (N:=some 10) (bz 8 7) rfl rfl (one_of HT_.out (by kernel_rfl)) (by decide) (fun K hK=>?_);refine value_ (w1:=?_) (v:=?_) (by rfl) rfl ?_ ?_;rotate_left 2
     ·go_simp;constructor
      ·rfl
      ·rfl
     refine hK.out _ _ ⟨(World.cell?_alloc_lt _ _ _ (World.block_lt_of_cell? _ _ HQ0.out)).trans HQ0.out,(World.cell?_alloc_lt _ _ _ (World.block_lt_of_cell? _ _ HQ2.out)).trans HQ2.out⟩ (fun hHeld=>?_);clear hK K;refine norm_ (a':=?_) ?_ ?_;rotate_left
     ·show Act.put _ (some 10) _=_
      simp only [Act.put,sA,sB,sC,i64_w,i32_w];rfl
     refine last_ (i:=7) (N:=none) (bz 8 8) rfl rfl (one_of HT_.out (by kernel_rfl)) (by decide) (fun K hK=>?_);have z0:(w5.alloc (.cells #[.int .i64 0,.slice none 0 0,.slice none 0 0] 43)).cell? ⟨w5.heap.size,0,none⟩=some (.int .i64 0):=(blk_cell (blk_new w5 _) 0).trans rfl;have z1:(w5.alloc (.cells #[.int .i64 0,.slice none 0 0,.slice none 0 0] 43)).cell? ⟨w5.heap.size,1,none⟩=some (.slice none 0 0):=(blk_cell (blk_new w5 _) 1).trans rfl
     have z2:(w5.alloc (.cells #[.int .i64 0,.slice none 0 0,.slice none 0 0] 43)).cell? ⟨w5.heap.size,2,none⟩=some (.slice none 0 0):=(blk_cell (blk_new w5 _) 2).trans rfl;have y0:=blk_frozen (blk_new w5 (.cells #[.int .i64 0,.slice none 0 0,.slice none 0 0] 43)) 0;have y1:=blk_frozen (blk_new w5 (.cells #[.int .i64 0,.slice none 0 0,.slice none 0 0] 43)) 1;have y2:=blk_frozen (blk_new w5 (.cells #[.int .i64 0,.slice none 0 0,.slice none 0 0] 43)) 2;refine skip_ (w1:=?_) (by rfl) rfl ?_ ?_;rotate_left
     ·go_simp;rfl
     refine hK.out _ _ ?_;clear hK K;refine done_ (done_of HT_.out (by kernel_rfl)) ?_;have HNW:=ak (nw_first HBX.out HO.out HK12.out pc);have HB1n:=ak (pw_cell_below HNW.out.below HB1w.out);clear z0 z1 z2 y0 y1 y2 HQ0 HQ2 HC0 HBX HO HG HB0 HB1 HB2 HD;generalize w5.alloc (.cells #[.int .i64 pc,.slice none 0 0,.slice An nx.length cn] 43)=wn at HNW HB1n ⊢;generalize w5.heap.size=g10 at HNW ⊢;rotate_left;refine value_ (w1:=?_) (v:=?_) (by rfl) rfl ?_ ?_;rotate_left 2
     ·go_simp;constructor
      ·rfl
      ·rfl
     refine hK.out _ _ ⟨(World.cell?_alloc_lt _ _ _ (World.block_lt_of_cell? _ _ HB0.out)).trans HB0.out,(World.cell?_alloc_lt _ _ _ (World.block_lt_of_cell? _ _ HB2.out)).trans HB2.out⟩ (fun hHeld=>?_);clear hK K;refine norm_ (a':=?_) ?_ ?_;rotate_left
     ·show Act.put _ (some 10) _=_
      simp only [Act.put,sA,sB,sC,i64_w,i32_w];rfl
     refine one_ (i:=4) (N:=some 65) (bm 8 95) rfl rfl (one_of HT_.out (by kernel_rfl)) (by decide) (fun K hK=>?_)
     refine Kd.R_append_rows_step (Kd.int .i64) (w0:=wr) wr.heap.size (by rfl) (.const (.slice none 0 0)) (.tmp 64) 25 3 (.int .i64 0) 8 rfl Try.underlying25 infoI rfl (by decide) (by omega) (.slice none 0 0) ([]:List Int) nx _ _ _ (fun k=>k≠W2.heap.size) (fun _=>False) rfl rfl (Kd.R_nil _ _ _ _ _) (Kd.C_below HN2.out (below_step HR12.out.below (below_alloc HD.out _))) (fun _ _ h=>h) (fun _ h=>h.elim) (fun k hk=>by have hs:(W2.alloc (.cells #[.int .i64 0,.slice none 0 0,.slice none 0 0] 43)).heap.size=W2.heap.size+1:=(by simp);rw [hs] at hk;omega) (below_alloc HD.out _) (below_alloc HD.out _).size (by simp;omega) ?_
     intro vN w5 ho hb hg hat;rw [List.nil_append] at ho;obtain ⟨An,cn,rfl⟩:=Kd.R_slice ho;have HO:=ak ho;have HBX:=ak hb;have HG:=ak hg;have hl0:g6<W2.heap.size:=World.block_lt_of_cell? _ _ HB0.out;have HC0:=ak ((hg.block g6 (by simp;omega) (by simp [Value.ownBlock])));have HQ0:=ak ((show w5.cell? ⟨g6,0,none⟩=some (.int .i64 pc) by rw [World.cell?,HC0.out];exact (World.cell?_alloc_lt _ _ _ (World.block_lt_of_cell? _ _ HB0.out)).trans HB0.out))
     have HQ2:=ak ((show w5.cell? ⟨g6,2,none⟩=some (.slice A2 nx.length c2) by rw [World.cell?,HC0.out];exact (World.cell?_alloc_lt _ _ _ (World.block_lt_of_cell? _ _ HB2.out)).trans HB2.out));have h10:w5.heap[W2.heap.size]? =some (.cells #[.int .i64 0,.slice none 0 0,.slice none 0 0] 43 (0,0)):=(hg.block _ (by simp) (by simp [Value.ownBlock])).trans (blk_new W2 _);have H10:=ak h10;clear ho hb hg hat h10 hl0;refine hK.out _ _ ⟨HQ0.out,HQ2.out⟩ (fun hHeld=>?_);clear hK K;refine norm_ (a':=?_) ?_ ?_;rotate_left
     ·show Act.put _ (some 65) _=_
      simp only [Act.put,sA,sB,sC,i64_w,i32_w];rfl
     refine pu 5 66 8 7 ?_;refine last_ (i:=7) (N:=none) (bz 8 8) rfl rfl (one_of HT_.out (by kernel_rfl)) (by decide) (fun K hK=>?_);have z0:w5.cell? ⟨W2.heap.size,0,none⟩=some (.int .i64 0):=qj H10 0;have z1:w5.cell? ⟨W2.heap.size,1,none⟩=some (.slice none 0 0):=qj H10 1;have z2:w5.cell? ⟨W2.heap.size,2,none⟩=some (.slice none 0 0):=qj H10 2;have y0:=ql H10 0;have y1:=ql H10 1;have y2:=ql H10 2;refine skip_ (w1:=?_) (by rfl) rfl ?_ ?_;rotate_left
     ·go_simp;rfl
     refine hK.out _ _ ?_;clear hK K;refine done_ (done_of HT_.out (by kernel_rfl)) ?_;have HNW:=ak (nw_second HD.out HBX.out HG.out HO.out HK12.out pc);have HB1n:=ak (pw_cell_below HNW.out.below HB1w.out);clear z0 z1 z2 y0 y1 y2 HQ0 HQ2 HC0 HBX HO HG HB0 HB1 HB2 HD H10;generalize ((w5.setCell ⟨W2.heap.size,0,none⟩ (.int .i64 pc)).setCell ⟨W2.heap.size,1,none⟩ (.slice none 0 0)).setCell ⟨W2.heap.size,2,none⟩ (.slice An nx.length cn)=wn at HNW HB1n ⊢;generalize W2.heap.size=g10 at HNW ⊢;rotate_left
     all_goals (
      have b1:=HB1n.out
      go_wp2_with fail
      clear b1;have HN0:Aside0 (NW wr wn gk g10 ins.length fk pc (.slice none 0 0) (.slice An nx.length cn) (pickTo ins fk 0) nx):=HNW;clear HNW HB1n HB1w
      go_loopw [70] (fun v70 wi=>∃ (i:Nat) (vI:Value),i≤ins.length∧v70= .int .i64 i∧Aside0 (NW wr wi gk g10 ins.length fk pc vI (.slice An nx.length cn) (pickTo ins fk i) nx)) (fun v70 _=>ins.length-(intOf v70).toNat)
      case atStart=>exact ⟨0,_,by omega,rfl,HN0⟩
      case round =>
       clear HN0;obtain ⟨i,vI,hi,rfl,HNW⟩:=hrel;obtain ⟨Ai,ci,hvI⟩:=Kd.R_slice HNW.out.rI;subst hvI
       by_cases hlti:i<ins.length
       ·obtain ⟨ad3,A3,c3,A7,c7,e3,hin,hrin⟩:=HRI.out i hlti;subst e3;have hfit:=HFE.out i hlti;have HPS:=ak (pickTo_succ ins fk i);have HLM:=ak (pickTo_length ins fk i);have hki:=ks_cell HNW.out.ks i hlti;have hbw:=below_step HR12.out.below HNW.out.below;generalize rd_T47 ins i=x at hin hrin hfit HPS;obtain ⟨q0,q1,q2,q3,q4,q5,q6,q7⟩:=hin.below hbw;have HXR:Aside0 (∀ W,Below w.heap.size w W→RIn W x A3 c3 A7 c7):=⟨fun W hW=>hrin.below hW⟩
        have HFX:=ak hfit;have HLI:=ak hlti;have hltii:(i:Int)<ins.length:=by omega
        clear hin hrin hfit hbw hi;generalize hgen:pickTo ins fk i=zs at HNW HPS HLM;clear hgen;cases hfki:fk i
        ·rw [hfki] at hki
         go_wp2_with (first
          |((with_reducible refine gate_dst (N:=12) rfl ?_);refine box47_zero_event rfl rfl rfl ?_;intro g12 w12 hg12 hA12 hb12;have HG12:=ak hg12;have HA12:=ak hA12;have HB12:=ak hb12;have z0:w12.cell? ⟨g12,0,none⟩=some (.int .i64 0):=(qk hA12 0);have y0:=blk_frozen hA12 0;have z1:w12.cell? ⟨g12,1,none⟩=some (.int .i64 0):=(qk hA12 1);have y1:=blk_frozen hA12 1;have z2:w12.cell? ⟨g12,2,none⟩=some (.int .i64 0):=(qk hA12 2);have y2:=blk_frozen hA12 2;have z3:w12.cell? ⟨g12,3,none⟩=some (.slice none 0 0):=(qk hA12 3);have y3:=blk_frozen hA12 3;have z4:w12.cell? ⟨g12,4,none⟩=some (.int .i64 0):=(qk hA12 4);have y4:=blk_frozen hA12 4;have z5:w12.cell? ⟨g12,5,none⟩=some (.int .i64 0):=(qk hA12 5);have y5:=blk_frozen hA12 5;have z6:w12.cell? ⟨g12,6,none⟩=some (.int .i64 0):=(qk hA12 6);have y6:=blk_frozen hA12 6;have z7:w12.cell? ⟨g12,7,none⟩=some (.slice none 0 0):=(qk hA12 7);have y7:=blk_frozen hA12 7;have hne12:¬ gk=g12:=(by have h1:=ks_lt HNW.out.ks;omega);replace hki:=pw_cell_below hb12 hki;clear q0 q1 q2 q3 q4 q5 q6 q7 hg12 hA12 hb12))
         go_roundw
         case rel=>exact ⟨i+1,_,by have:=HLI.out;omega,by go_num,⟨by rw [HPS.out,hfki,if_neg (by decide),List.append_nil];exact HNW.out.next (put47_below HB12.out HG12.out _ _ _ _ _ _ _ _)⟩⟩
         case measure=>simp [intOf];omega
        ·rw [hfki] at hki
         go_wp2_with (first
          |((with_reducible refine gate_dst (N:=12) rfl ?_);refine box47_zero_event rfl rfl rfl ?_;intro g12 w12 hg12 hA12 hb12;have HG12:=ak hg12;have HA12:=ak hA12;have HB12:=ak hb12;have z0:w12.cell? ⟨g12,0,none⟩=some (.int .i64 0):=(qk hA12 0);have y0:=blk_frozen hA12 0;have z1:w12.cell? ⟨g12,1,none⟩=some (.int .i64 0):=(qk hA12 1);have y1:=blk_frozen hA12 1;have z2:w12.cell? ⟨g12,2,none⟩=some (.int .i64 0):=(qk hA12 2);have y2:=blk_frozen hA12 2;have z3:w12.cell? ⟨g12,3,none⟩=some (.slice none 0 0):=(qk hA12 3);have y3:=blk_frozen hA12 3;have z4:w12.cell? ⟨g12,4,none⟩=some (.int .i64 0):=(qk hA12 4);have y4:=blk_frozen hA12 4;have z5:w12.cell? ⟨g12,5,none⟩=some (.int .i64 0):=(qk hA12 5);have y5:=blk_frozen hA12 5;have z6:w12.cell? ⟨g12,6,none⟩=some (.int .i64 0):=(qk hA12 6);have y6:=blk_frozen hA12 6;have z7:w12.cell? ⟨g12,7,none⟩=some (.slice none 0 0):=(qk hA12 7);have y7:=blk_frozen hA12 7;have hne12:¬ gk=g12:=(by have h1:=ks_lt HNW.out.ks;omega);replace hki:=pw_cell_below hb12 hki;clear q0 q1 q2 q3 q4 q5 q6 q7 hg12 hA12 hb12))
         have HM12:Aside0 (((((((((w12.setCell ⟨g12,0,none⟩ (.int .i64 x.f0)).setCell ⟨g12,1,none⟩ (.int .i64 x.f1)).setCell ⟨g12,2,none⟩ (.int .i64 x.f2)).setCell ⟨g12,3,none⟩ (.slice A3 x.f3.length c3)).setCell ⟨g12,4,none⟩ (.int .i64 x.f4)).setCell ⟨g12,5,none⟩ (.int .i64 x.f5)).setCell ⟨g12,6,none⟩ (.int .i64 x.f6)).setCell ⟨g12,7,none⟩ (.slice A7 x.f7.length c7)).heap[g12]? =some (.cells (cells47 x A3 c3 A7 c7) 47 (0,0))):=⟨put47_blk HA12.out rfl _ _ _ _ _ _ _ _⟩
         have HNM:Aside0 (NW _ ((((((((w12.setCell ⟨g12,0,none⟩ (.int .i64 x.f0)).setCell ⟨g12,1,none⟩ (.int .i64 x.f1)).setCell ⟨g12,2,none⟩ (.int .i64 x.f2)).setCell ⟨g12,3,none⟩ (.slice A3 x.f3.length c3)).setCell ⟨g12,4,none⟩ (.int .i64 x.f4)).setCell ⟨g12,5,none⟩ (.int .i64 x.f5)).setCell ⟨g12,6,none⟩ (.int .i64 x.f6)).setCell ⟨g12,7,none⟩ (.slice A7 x.f7.length c7)) gk g10 ins.length fk pc (.slice Ai zs.length ci) (.slice An nx.length cn) zs nx):=⟨HNW.out.next (put47_below HB12.out HG12.out _ _ _ _ _ _ _ _)⟩
         have HLE:Aside0 ((zs.length+1)*96≤140737488355328):=⟨by have:=HLM.out;have:=HLI.out;have:=HFI.out;omega⟩
         generalize (((((((w12.setCell ⟨g12,0,none⟩ (.int .i64 x.f0)).setCell ⟨g12,1,none⟩ (.int .i64 x.f1)).setCell ⟨g12,2,none⟩ (.int .i64 x.f2)).setCell ⟨g12,3,none⟩ (.slice A3 x.f3.length c3)).setCell ⟨g12,4,none⟩ (.int .i64 x.f4)).setCell ⟨g12,5,none⟩ (.int .i64 x.f5)).setCell ⟨g12,6,none⟩ (.int .i64 x.f6)).setCell ⟨g12,7,none⟩ (.slice A7 x.f7.length c7)=wm at HM12 HNM ⊢;have HNM:=ak (HNM.out.next (below_drew1 (Below.refl _ wm)));have HM12:Aside0 (wm.drew.heap[g12]? =some (.cells (cells47 x A3 c3 A7 c7) 47 (0,0))):=⟨HM12.out⟩
         clear z0 y0 z1 y1 z2 y2 z3 y3 z4 y4 z5 y5 z6 y6 z7 y7 hki hne12 HA12 HB12;have HG12x:Aside0 (some g12≠(Value.slice Ai zs.length ci).ownBlock):=⟨fun he=>by have:=Kd.R_lt HNW.out.rI g12 he.symm;have:=HG12.out;omega⟩
         refine start_ (n:=8) (S:=fun w'=>w'.cell? ⟨g10,1,none⟩=some (.slice Ai zs.length ci)∧w'.cell? ⟨g12,0,none⟩=some (.int .i64 x.f0)∧w'.cell? ⟨g12,1,none⟩=some (.int .i64 x.f1)∧w'.cell? ⟨g12,2,none⟩=some (.int .i64 x.f2)∧w'.cell? ⟨g12,3,none⟩=some (.slice A3 x.f3.length c3)∧w'.cell? ⟨g12,4,none⟩=some (.int .i64 x.f4)∧w'.cell? ⟨g12,5,none⟩=some (.int .i64 x.f5)∧w'.cell? ⟨g12,6,none⟩=some (.int .i64 x.f6)∧w'.cell? ⟨g12,7,none⟩=some (.slice A7 x.f7.length c7)) (ds:=[7]) (bz 8 0) (by kernel_rfl) rfl rfl ⟨(blk_cell HNM.out.b10 1).trans rfl,qj HM12 0,qj HM12 1,qj HM12 2,qj HM12 3,qj HM12 4,qj HM12 5,qj HM12 6,qj HM12 7⟩ (fun hHeld=>?_)
         refine with_tabW r16_18_tab r16_18_bits (fun HT_ HW_=>?_);generalize World.drew wm=W3 at HNM HM12 HLE hHeld ⊢;refine pu 0 79 8 1 ?_;refine tk 1 80 8 2 ?_;refine tk 2 81 8 3 ?_;refine one_ (i:=3) (N:=some 82) (bz 8 4) rfl rfl (one_of HT_.out (by kernel_rfl)) (by decide) (fun K hK=>?_);refine goes_ Try.func36 (by kernel_rfl) rfl #[v47 x A3 c3 A7 c7] (by rfl) rfl rfl (by (try simp only [List.map_toArray,List.map_cons,List.map_nil]);first |done |rfl) ?_;refine (copied_calls x A3 c3 A7 c7 _ (HXR.out W3 (below_step HR12.out.below HNM.out.below)) HFX.out).mono ?_
         rintro e w5 ⟨v3,v7,rfl,ho3,ho7,hb5⟩;refine ⟨_,rfl,?_⟩;obtain ⟨B3,d3,rfl⟩:=Kd.R_slice ho3;obtain ⟨B7,d7,rfl⟩:=Kd.R_slice ho7;have HO3:=ak ho3;have HO7:=ak ho7;have HB5:=ak hb5;have HN5:=ak (HNM.out.next hb5);have HM5:=ak ((hb5.block g12 (blk_lt HM12.out)).trans HM12.out);clear ho3 ho7 hb5;refine hK.out _ _ ⟨(blk_cell HN5.out.b10 1).trans rfl,qj HM5 0,qj HM5 1,qj HM5 2,qj HM5 3,qj HM5 4,qj HM5 5,qj HM5 6,qj HM5 7⟩ (fun hHeld=>?_);clear hK K;refine norm_ (a':=?_) ?_ ?_;rotate_left
         ·show Act.put _ (some 82) _=_
          simp only [Act.put,sA,sB,sC,i64_w,i32_w];rfl
         refine one_ (i:=4) (N:=some 83) (bz 8 5) rfl rfl (one_of HT_.out (by kernel_rfl)) (by decide) (fun K hK=>?_);refine value_ (w1:=w5.alloc (.cells #[.int .i64 x.f0,.int .i64 x.f1,.int .i64 x.f2,.slice B3 x.f3.length d3,.int .i64 x.f4,.int .i64 x.f5,.int .i64 x.f6,.slice B7 x.f7.length d7] 47 (0,0))) (v:= .slice (some ⟨w5.heap.size,0,none⟩) 1 1) (by rfl) rfl ?_ ?_
         ·simp only [row47];go_simp
          first |done |rfl
         have HN6:=ak (HN5.out.next (below_alloc (Below.refl _ w5) (.cells #[.int .i64 x.f0,.int .i64 x.f1,.int .i64 x.f2,.slice B3 x.f3.length d3,.int .i64 x.f4,.int .i64 x.f5,.int .i64 x.f6,.slice B7 x.f7.length d7] 47 (0,0))));have HM6:Aside0 ((w5.alloc (.cells #[.int .i64 x.f0,.int .i64 x.f1,.int .i64 x.f2,.slice B3 x.f3.length d3,.int .i64 x.f4,.int .i64 x.f5,.int .i64 x.f6,.slice B7 x.f7.length d7] 47 (0,0))).heap[g12]? =some (.cells (cells47 x A3 c3 A7 c7) 47 (0,0))):=⟨blk_alloc HM5.out _⟩
         refine hK.out _ _ ⟨(blk_cell HN6.out.b10 1).trans rfl,qj HM6 0,qj HM6 1,qj HM6 2,qj HM6 3,qj HM6 4,qj HM6 5,qj HM6 6,qj HM6 7⟩ (fun hHeld=>?_);clear hK K;refine norm_ (a':=?_) ?_ ?_;rotate_left
         ·show Act.put _ (some 83) _=_
          simp only [Act.put,sA,sB,sC,i64_w,i32_w];rfl
         refine one_ (i:=5) (N:=some 84) (bz 8 6) rfl rfl (one_of HT_.out (by kernel_rfl)) (by decide) (fun K hK=>?_)
         refine Kd.R_append_step k47 (w0:=_) _ (by rfl) (.tmp 80) (.tmp 83) 41 47 (.agg #[(.int .i64 0),(.int .i64 0),(.int .i64 0),(.slice none 0 0),(.int .i64 0),(.int .i64 0),(.int .i64 0),(.slice none 0 0)]) 96 rfl Try.underlying41 info47 rfl (by decide) (by omega) (.slice Ai zs.length ci) zs x [.int .i64 x.f0,.int .i64 x.f1,.int .i64 x.f2,.slice B3 x.f3.length d3,.int .i64 x.f4,.int .i64 x.f5,.int .i64 x.f6,.slice B7 x.f7.length d7] (fun k=>k≠g10∧some k≠(Value.slice An nx.length cn).ownBlock) (fun k=>W3.heap.size≤k) rfl rfl ?aP ?aK ?aF HN5.out.rI HN5.out.below HN5.out.below.size HLE.out ?_
         case aP=>exact k47_mkM _ _ _ x (Kd.R_lower (Kd.R_reok rfl HO3.out (fun b hb=>Kd.R_base HO3.out b hb)) HNM.out.below.size) (Kd.R_lower (Kd.R_mono (Kd.R_bound HO7.out) (fun _ hk=>hk.2.1)) HNM.out.below.size)
         case aK=>exact fun k hk=>⟨⟨by have:=blk_lt HNM.out.b10;omega,fun he=>by have:=Kd.R_lt HNM.out.rN k he.symm;omega⟩,fun he=>by have:=Kd.R_lt HNM.out.rI k he.symm;omega⟩
         case aF=>exact fun k hk=>⟨by have:=blk_lt HN5.out.b10;omega,fun he=>by have:=Kd.R_lt HN5.out.rN k he.symm;omega⟩
         intro v6 w6 ho hb hg hat;have HP:=ak (HN5.out.push ho hb hg);have hb10:=blk_grown HN5.out.b10 hg (fun he=>(HN5.out.rI.1 g10 he.symm).1 rfl);have H10:=ak hb10;have hm12:=blk_grown HM5.out hg (fun he=>by have:=HG12x.out;exact this he);have H12:=ak hm12;obtain ⟨Aj,cj,rfl⟩:=Kd.R_slice ho;clear ho hb hg hat hb10 hm12;refine hK.out _ _ ⟨qj H10 1,qj H12 0,qj H12 1,qj H12 2,qj H12 3,qj H12 4,qj H12 5,qj H12 6,qj H12 7⟩ (fun hHeld=>?_);clear hK K;refine norm_ (a':=?_) ?_ ?_;rotate_left
         ·show Act.put _ (some 84) _=_
          simp only [Act.put,sA,sB,sC,i64_w,i32_w];rfl
         refine pu 6 85 8 7 ?_;refine last_ (i:=7) (N:=none) (bz 8 8) rfl rfl (one_of HT_.out (by kernel_rfl)) (by decide) (fun K hK=>?_);have z1:w6.cell? ⟨g10,1,none⟩=some (.slice Ai zs.length ci):=qj H10 1;have y1:=ql H10 1;refine skip_ (w1:=?_) (by rfl) rfl ?_ ?_;rotate_left
         ·go_simp;rfl
         refine hK.out _ _ ?_;clear hK K;refine done_ (done_of HT_.out (by kernel_rfl)) ?_;clear z1 y1
         go_wp2_with fail
         go_roundw
         case rel =>
          have hh:=HP.out;rw [List.length_append,List.length_singleton] at hh;exact ⟨i+1,_,by have:=HLI.out;omega,by go_num,⟨by rw [HPS.out,hfki,if_pos (by rfl)];exact hh⟩⟩
         case measure=>simp [intOf];omega
       ·obtain rfl:i=ins.length:=by omega
        have hps:pickTo ins fk ins.length=strip iOf ins E:=pick_strip ins E fk (fun i hi=>by rw [HKF.out i (Nat.zero_le _) hi,HFK.out i]);rw [hps] at HNW;have HRN:=ak (HR12.out.next HNW.out.below);have HLY:Aside0 ((ys.length+1)*56≤140737488355328):=⟨by have:=HLEN.out;have:=HFT.out.blocks;have:=HBL.out;omega⟩
        generalize strip iOf ins E=zs at HNW HST;clear hps hi hlti;have n0:wr.cell? ⟨g10,0,none⟩=some (.int .i64 pc):=(blk_cell HNW.out.b10 0).trans rfl;have n1:wr.cell? ⟨g10,1,none⟩=some (.slice Ai zs.length ci):=(blk_cell HNW.out.b10 1).trans rfl;have n2:wr.cell? ⟨g10,2,none⟩=some (.slice An nx.length cn):=(blk_cell HNW.out.b10 2).trans rfl;have t2:wr.cell? ⟨g4,2,none⟩=some (.slice Av ys.length cv):=(blk_cell HRN.out.b4 2).trans rfl
        go_wp2_with (first
         |((with_reducible refine gate_dst (N:=91) rfl ?_);at_builtin;refine Kd.R_append k43 (w0:=w) w.heap.size rfl (.tmp 88) (.tmp 90) 22 43 (.agg #[(.int .i64 0),(.slice none 0 0),(.slice none 0 0)]) 56 rfl Try.underlying22 info43 rfl (by decide) (by omega) (.slice Av ys.length cv) ys ⟨pc,zs,nx⟩ [.int .i64 pc,.slice Ai zs.length ci,.slice An nx.length cn] (fun k=>k≠g2∧k≠g4∧k≠gf∧k≠gw) (fun k=>HW12≤k) rfl rfl ?aP ?aK ?aF HRN.out.own HRN.out.below HRN.out.below.size HLY.out ?_;(case aP=>exact k43_mkM _ _ _ (⟨pc,zs,nx⟩:S43) (Kd.R_lower (Kd.R_mono (Kd.R_bound HNW.out.rI) (fun _ hk=>by have:=hk.2.1;rw [←HWE.out];exact this)) HR12.out.below.size) (Kd.R_lower (Kd.R_reok rfl HNW.out.rN (fun b hb=>by rw [←HWE.out];exact Kd.R_base HNW.out.rN b hb)) HR12.out.below.size));(case aK=>intro k hk;have q2:=blk_lt HR12.out.b2;have q4:=blk_lt HR12.out.b4;have qf:=blk_lt HR12.out.fl.blk;have qw:=ws_lt HR12.out.fl.ws;rw [←HWE.out] at hk;exact ⟨⟨by omega,by omega,by omega,by omega⟩,fun he=>by have:=Kd.R_lt HR12.out.own k he.symm;omega⟩);(case aF=>intro k hk;have q2:=blk_lt HRN.out.b2;have q4:=blk_lt HRN.out.b4;have qf:=blk_lt HRN.out.fl.blk;have qw:=ws_lt HRN.out.fl.ws;exact ⟨by omega,by omega,by omega,by omega⟩);intro v6 w6 ho hb6 hg hat;have HP:=ak (HRN.out.push HC.out ho hb6 hg);obtain ⟨Aj,cj,rfl⟩:=Kd.R_slice ho;have hb4:=blk_grown HRN.out.b4 hg (fun he=>(HRN.out.own.1 g4 he.symm).2.1 rfl);have t2b:w6.cell? ⟨g4,2,none⟩=some (.slice Av ys.length cv):=(qk hb4 2);have y2b:=blk_frozen hb4 2;clear ho hb6 hg hat hb4 n0 n1 n2 t2))
        clear t2b y2b
        go_roundw
        case rel =>
         have hh:=HP.out;rw [List.length_append,List.length_singleton] at hh;exact ⟨b+1,_,by have:=HBL.out;omega,by go_num,⟨by rw [HST.out];exact hh⟩⟩
        case measure=>simp [intOf];omega)
    ·obtain ⟨m,rfl⟩:∃ b,m=b+1:=⟨m-1,by omega⟩
     obtain rfl:i1=(m:Int):=by omega
     clear hi1 h0;obtain ⟨ad3,A3,c3,A7,c7,e3,hin,hrin⟩:=HRI.out m (by omega);subst e3;have hbe:=HBD.out m (by omega);have hreg:=hE2.out (m+1);have hfk:=HFK.out m;generalize back ((ins.drop (m+1)).map iOf) E=S1 at hbe hreg HA hfk;generalize rd_T47 ins m=x at hbe hin hrin hfk;have HBE:=ak hbe;have HREG:=ak hreg;obtain ⟨t,ht⟩:∃ t,idle (iOf x) S1=t:=⟨_,rfl⟩
     have HT:=ak ht;rw [ht] at hfk;have HFKM:=ak hfk;have hbw:=below_step HR.out.below HA.out.vw.below;clear hbe hreg ht hfk;obtain ⟨q0,q1,q2,q3,q4,q5,q6,q7⟩:=hin.below hbw;have HRIN:=ak (hrin.below hbw);have HXI:Aside0 (∀ W,Below w.heap.size w W→InsAt W (ad3.add (m*8)) x A3 c3 A7 c7):=⟨fun W hW=>hin.below hW⟩
     have HXR:Aside0 (∀ W,Below w.heap.size w W→RIn W x A3 c3 A7 c7):=⟨fun W hW=>hrin.below hW⟩
     have b1:wr.cell? ⟨g6,1,none⟩=some (.slice (some ad3) ins.length c1):=(blk_cell HA.out.b6 1).trans rfl;obtain ⟨s0,s1,s2,s3,s4,s5,s6,s7,f0,f1,f2,f3,f4,f5,f6,f7⟩:=cells8 HA.out.vw.at_;clear f0 f1 f2 f3 f4 f5 f6 f7 hin hrin hbw;have HMI:Aside0 (m<ins.length):=⟨by omega⟩
     have hmi:(m:Int)<ins.length:=by omega
     clear hm
     go_wp2_with fail
     go_region_with (go_at_call 35;refine (idle_calls x A3 c3 A7 c7 S1 HREG.out _ (HRIN.out.below (below_drew (Below.refl _ wr)))).mono ?_;rw [HT.out];rintro e w8 ⟨rfl,hb0⟩;have hb:=below_step (below_drew (Below.refl _ wr)) hb0;have HB8:=ak hb;have HL8:=ak (HA.out.next hb);have k0:=ks_cell HL8.out.ks m HMI.out;have k1:=ks_frozen HL8.out.ks m;clear hb hb0)
     all_goals (
      have HP:=ak (HL8.out.putK (ks_put HL8.out.ks m (!t)) (grown_set _ _ _ _));clear q0 q1 q2 q3 q4 q5 q6 q7 b1 s0 s1 s2 s3 s4 s5 s6 s7 k0 k1 HB8 HL8;generalize w8.setCell ⟨gk,m,none⟩ (Value.bool (!t))=wA at HP ⊢;clear w8;have hbw:=below_step HR.out.below HP.out.vw.below;obtain ⟨q0,q1,q2,q3,q4,q5,q6,q7⟩:=HXI.out wA hbw;have HRIN:=ak (HXR.out wA hbw);have b1:wA.cell? ⟨g6,1,none⟩=some (.slice (some ad3) ins.length c1):=(blk_cell HP.out.b6 1).trans rfl;obtain ⟨s0,s1,s2,s3,s4,s5,s6,s7,f0,f1,f2,f3,f4,f5,f6,f7⟩:=cells8 HP.out.vw.at_
      clear f0 f1 f2 f3 f4 f5 f6 f7 hbw
      go_wp2_with fail
      go_region_with (go_at_call 30;refine (ahead_calls x A3 c3 A7 c7 S1 HREG.out _ (HRIN.out.below (below_drew (Below.refl _ wA)))).mono ?_;rintro e w8 ⟨rfl,hb0⟩;have hb:=below_step (below_drew (Below.refl _ wA)) hb0;obtain ⟨r0,r1,r2,r3,r4,r5,r6,r7,f0,f1,f2,f3,f4,f5,f6,f7⟩:=cells8 (at_below HP.out.vw.at_ hb);have HB8:=ak hb;clear hb hb0;simp only [setV,cellsV,LiveSet.u64])
      all_goals (
       have HQ:=ak ((HP.out.next HB8.out).putS (put8_at (at_below HP.out.vw.at_ HB8.out) (LiveT.ahead (iOf x) S1)) (put8_grown _ _ _));clear q0 q1 q2 q3 q4 q5 q6 q7 b1 s0 s1 s2 s3 s4 s5 s6 s7 r0 r1 r2 r3 r4 r5 r6 r7 f0 f1 f2 f3 f4 f5 f6 f7
       go_wp2_with fail
       go_roundw
       case rel =>
        refine ⟨_,_,_,_,_,_,_,_,_,_,_,_,_,_,_,_,_,_,_,_,_,_,_,?_,rfl⟩;refine ⟨m,(m:Int)-1,_,by have:=HMI.out;omega,rfl,rfl,by rw [HBE.out];exact HQ,⟨fun i h1 h2=>?_⟩⟩
        by_cases he:i=m
        ·subst he;rw [if_pos rfl];exact HFKM.out.symm
        ·rw [if_neg he];exact HKF.out i (by omega) h2
       case measure=>simp [intOf]))
  ·obtain rfl:b=bs.length:=by omega
   have htk:(runBs bs V).take bs.length=runBs bs V:=List.take_of_length_le (by rw [runBs_length];omega);rw [htk] at HR;have t0:wr.cell? ⟨g4,0,none⟩=some (.int .i64 fn):=(blk_cell HR.out.b4 0).trans rfl;have t1:wr.cell? ⟨g4,1,none⟩=some (.int .i64 rg):=(blk_cell HR.out.b4 1).trans rfl;have t2:wr.cell? ⟨g4,2,none⟩=some (.slice Av (runBs bs V).length cv):=(blk_cell HR.out.b4 2).trans rfl;have z0:wr.cell? ⟨g2,0,none⟩=some (.int .i64 0):=(blk_cell HR.out.b2 0).trans rfl;have z1:wr.cell? ⟨g2,1,none⟩=some (.int .i64 0):=(blk_cell HR.out.b2 1).trans rfl
   have z2:wr.cell? ⟨g2,2,none⟩=some (.slice none 0 0):=(blk_cell HR.out.b2 2).trans rfl;have f0:=blk_frozen HR.out.b2 0;have f1:=blk_frozen HR.out.b2 1;have f2:=blk_frozen HR.out.b2 2
   go_wp2_with fail
   refine bodyPost_ret (results_cell_row rfl _ _ g2 24 #[.int .i64 fn,.int .i64 rg,.slice Av (runBs bs V).length cv] (0,0) _ rfl (blk_put (blk_put (blk_put HR.out.b2 0 _ rfl) 1 _ rfl) 2 _ rfl) Try.underlying24 rfl (by kernel_rfl)) rfl ?_;exact ⟨_,rfl,Kd.R_mono (Kd.R_far (Kd.R_far (Kd.R_far HR.out.own (fun _ hk=>hk.1) _) (fun _ hk=>hk.1) _) (fun _ hk=>hk.1) _) (fun _ _=>trivial),below_set (below_set (below_set HR.out.below HR.out.l2) HR.out.l2) HR.out.l2⟩
end Go.Proofs.Ytklknkfoafdgpaa.LiveRunW
