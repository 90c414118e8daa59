import Derived.Test.YtklknkfoafdgpaaLiveHandP
import Derived.Test.YtklknkfoafdgpaaLiveRunW
namespace Go.Proofs.Ytklknkfoafdgpaa.LiveEqC
set_option maxHeartbeats 8000000
set_option maxRecDepth 100000
open RowKit YtklknkfoafdgpaaW.PrintWords YtklknkfoafdgpaaW.PrintLast YtklknkfoafdgpaaW.PrintMore
open PLiveKnown LiveT LiveB LiveSet LiveAhead LiveEnd LiveSettled LiveCopied LiveRunP LiveSame LiveRefP
set_option linter.unusedVariables false
set_option linter.unusedSimpArgs false
theorem ints40_calls (l:List Int) (A:Option Addr) (c:Nat) (w:World) (h:Kd.C (Kd.int .i64) w A l.length l) (hc:l.length≤c) (hl:l.length*8≤140737488355328) :
  Calls Try.prog 40 #[.slice A l.length c] w fun e w'=>∃ v,e= .returned v∧Kd.R (Kd.int .i64) 3 w' w.heap.size (fun _=>True) v l∧Below w.heap.size w w':=by
 obtain ⟨k,hk⟩:=(copyInts_ev l hl).rounds;exact zCopyInts.calls k A c l l w h hc hk
structure CQ (w W:World) (g1 g2 g3:Nat) (fn rg:Int) (Ab:Option Addr) (n cb:Nat) (v:Value) (ys:List S43):Prop where
 below:Below w.heap.size w W
 b1:W.heap[g1]? =some (.cells #[.int .i64 fn,.int .i64 rg,.slice Ab n cb] 24 (0,0))
 b2:W.heap[g2]? =some (.cells #[.int .i64 0,.int .i64 0,.slice none 0 0] 24 (0,0))
 b3:W.heap[g3]? =some (.cells #[.int .i64 fn,.int .i64 rg,v] 24 (0,0))
 own:Kd.R k43 43 W w.heap.size (fun k=>k≠g1∧k≠g2∧k≠g3) v ys
 n13:g1≠g3
 n23:g2≠g3
 l2:w.heap.size≤g2
 l3:w.heap.size≤g3
structure CN (wr W:World) (g5:Nat) (pc:Int) (vI vN:Value) (zs:List S47) (nx:List Int):Prop where
 below:Below wr.heap.size wr W
 b5:W.heap[g5]? =some (.cells #[.int .i64 pc,vI,vN] 43 (0,0))
 rI:Kd.R k47 47 W wr.heap.size (fun k=>k≠g5∧some k≠vN.ownBlock) vI zs
 rN:Kd.R (Kd.int .i64) 3 W wr.heap.size (fun k=>vN.ownBlock=some k) vN nx
 nN:∀ k,vN.ownBlock=some k→k≠g5
 lt:wr.heap.size≤g5
section
variable {w wr W W1:World} {g1 g2 g3 g5 n cb:Nat} {fn rg pc:Int} {Ab:Option Addr} {v v1 vI vN:Value} {ys ys1:List S43} {zs zs1:List S47} {nx:List Int}
theorem CQ.next (h:CQ w W g1 g2 g3 fn rg Ab n cb v ys) (hb:Below W.heap.size W W1):CQ w W1 g1 g2 g3 fn rg Ab n cb v ys:=
 ⟨below_step h.below hb,(hb.block g1 (blk_lt h.b1)).trans h.b1,(hb.block g2 (blk_lt h.b2)).trans h.b2,(hb.block g3 (blk_lt h.b3)).trans h.b3,Kd.R_below h.own hb,h.n13,h.n23,h.l2,h.l3⟩
theorem CQ.push (h:CQ w W g1 g2 g3 fn rg Ab n cb v ys) (hR:Kd.R k43 43 W1 w.heap.size (fun k=>k≠g1∧k≠g2∧k≠g3) v1 ys1) (hb:Below w.heap.size w W1) (hg:W.grownBy W1 v.ownBlock):CQ w (W1.setCell ⟨g3,2,none⟩ v1) g1 g2 g3 fn rg Ab n cb v1 ys1:=by
 have e1:some g1≠v.ownBlock:=fun he=>(h.own.1 g1 he.symm).1 rfl
 have e2:some g2≠v.ownBlock:=fun he=>(h.own.1 g2 he.symm).2.1 rfl
 have e3:some g3≠v.ownBlock:=fun he=>(h.own.1 g3 he.symm).2.2 rfl
 exact ⟨hb.setCell h.l3 _,blk_far (blk_grown h.b1 hg e1) h.n13 _,blk_far (blk_grown h.b2 hg e2) h.n23 _,blk_put (blk_grown h.b3 hg e3) 2 _ rfl,Kd.R_far hR (fun k hk=>hk.2.2) _,h.n13,h.n23,h.l2,h.l3⟩
theorem CN.next (h:CN wr W g5 pc vI vN zs nx) (hb:Below W.heap.size W W1):CN wr W1 g5 pc vI vN zs nx:=
 ⟨below_step h.below hb,(hb.block g5 (blk_lt h.b5)).trans h.b5,Kd.R_below h.rI hb,Kd.R_below h.rN hb,h.nN,h.lt⟩
theorem CN.push (h:CN wr W g5 pc vI vN zs nx) (hR:Kd.R k47 47 W1 wr.heap.size (fun k=>k≠g5∧some k≠vN.ownBlock) v1 zs1) (hb:Below wr.heap.size wr W1) (hg:W.grownBy W1 vI.ownBlock):CN wr (W1.setCell ⟨g5,1,none⟩ v1) g5 pc v1 vN zs1 nx:=by
 have e5:some g5≠vI.ownBlock:=fun he=>(h.rI.1 g5 he.symm).1 rfl
 refine ⟨hb.setCell h.lt _,blk_put (blk_grown h.b5 hg e5) 1 _ rfl,Kd.R_far hR (fun k hk=>hk.1) _,?_,h.nN,h.lt⟩;exact Kd.R_far (Kd.R_grown h.rN hg (fun k hk he=>(h.rI.1 k he.symm).2 hk.symm)) (fun k hk=>h.nN k hk) _
end
theorem cn_first {wr w5:World} {An:Option Addr} {cn:Nat} {nx:List Int} (hb:Below wr.heap.size wr w5) (ho:Kd.R (Kd.int .i64) 3 w5 wr.heap.size (fun _=>True) (.slice An nx.length cn) nx) (pc:Int) :
  CN wr (w5.alloc (.cells #[.int .i64 pc,.slice none 0 0,.slice An nx.length cn] 43)) w5.heap.size pc (.slice none 0 0) (.slice An nx.length cn) [] nx:=by
 have h5:Below w5.heap.size w5 (w5.alloc (.cells #[.int .i64 pc,.slice none 0 0,.slice An nx.length cn] 43)):=below_alloc (Below.refl _ w5) _;exact ⟨below_step hb h5,blk_new w5 _,Kd.R_nil _ _ _ _ _,Kd.R_reok rfl (Kd.R_below ho h5) (fun b hb=>hb),fun k hk=>Nat.ne_of_lt (Kd.R_lt ho k hk),hb.size⟩
theorem cn_second {wr w5:World} {g5:Nat} {An:Option Addr} {cn:Nat} {nx:List Int} (hl:wr.heap.size≤g5) (hb:Below wr.heap.size wr w5) (h10:w5.heap[g5]? =some (.cells #[.int .i64 0,.slice none 0 0,.slice none 0 0] 43 (0,0))) (ho:Kd.R (Kd.int .i64) 3 w5 wr.heap.size (fun k=>k≠g5) (.slice An nx.length cn) nx) (pc:Int) :
  CN wr (((w5.setCell ⟨g5,0,none⟩ (.int .i64 pc)).setCell ⟨g5,1,none⟩ (.slice none 0 0)).setCell ⟨g5,2,none⟩ (.slice An nx.length cn)) g5 pc (.slice none 0 0) (.slice An nx.length cn) [] nx:=
 ⟨below_set (below_set (below_set hb hl) hl) hl,blk_put (blk_put (blk_put h10 0 _ rfl) 1 _ rfl) 2 _ rfl,Kd.R_nil _ _ _ _ _,Kd.R_reok rfl (Kd.R_far (Kd.R_far (Kd.R_far ho (fun _ hk=>hk) _) (fun _ hk=>hk) _) (fun _ hk=>hk) _) (fun b hb=>hb),fun k hk=>ho.1 k hk,hl⟩
theorem take_47 (l:List S47) (i:Nat) (h:i<l.length):l.take (i+1)=l.take i++[rd_T47 l (i:Int)]:=by
 rw [List.take_add_one,List.getElem?_eq_getElem h,rd47 l i h];rfl
theorem take_43' (l:List S43) (i:Nat) (h:i<l.length):l.take (i+1)=l.take i++[rd_T43 l (i:Int)]:=by
 rw [List.take_add_one,List.getElem?_eq_getElem h,rd43 l i h];rfl
def r19_5_T:Bool×List (List Nat×List Nat):=(true,[([],[]),([0],[0]),([],[]),([1,2],[1,2]),([3],[3]),([4],[4]),([],[]),([6],[6]),([],[]),([7,8],[7,8]),([9],[9]),([10],[10]),([11],[11]),([5,12],[5,12]),([],[]),([14,13,12,0,1,2,3,4,5,6,7,8,9,10,11,12,13,14],[13,14])])
def r19_5_B:List Nat:=[0,1,0,7,15,31,0,64,0,448,960,1984,4032,8191,0,32767]
theorem r19_5_tab:rtab .any (opsOf Try.f19 5)=r19_5_T:=by kernel_rfl
theorem r19_5_bits:waitsOk r19_5_T.2 r19_5_B=true:=by kernel_rfl
theorem regs19_calls (fn rg:Int) (Ab:Option Addr) (cb:Nat) (bs:List S43) (w:World) (hC:Kd.C k43 w Ab bs.length bs) (hf:FitC bs) :
  Calls Try.prog 19 #[.agg #[.int .i64 fn,.int .i64 rg,.slice Ab bs.length cb]] w fun e w'=>∃ v,e= .returned (.agg #[.int .i64 fn,.int .i64 rg,v])∧Kd.R k43 43 w' w.heap.size (fun _=>True) v bs∧Below w.heap.size w w':=by
 have HC:=ak hC;have HFT:=ak hf;have hmx:bs.length≤9223372036854775807:=Kd.C_max hC;clear hC hf
 go_enter Try.func19,Try.ntmps19
 go_wp2_with (first
  |((with_reducible refine gate_dst (N:=1) rfl ?_);refine LiveRunW.zero_event 24 #[.int .i64 fn,.int .i64 rg,.slice Ab bs.length cb] rfl rfl qb ?_;intro g1 w1 hg1 hA1 hb1;have HA1:=ak hA1;have HB1:=ak hb1;clear hg1 hA1 hb1)
  |((with_reducible refine gate_dst (N:=2) rfl ?_);refine LiveRunW.zero_event 24 #[.int .i64 0,.int .i64 0,.slice none 0 0] rfl rfl qb ?_;intro g2 w2 hg2 hA2 hb2;have HG2:=ak (Nat.le_trans HB1.out.size hg2);have HA2:=ak hA2;have HB2:=ak (below_step HB1.out hb2);have HA12:=ak ((hb2.block g1 (blk_lt HA1.out)).trans HA1.out);have u0:w2.cell? ⟨g1,0,none⟩=some (.int .i64 fn):=(qj HA12 0);have u1:w2.cell? ⟨g1,1,none⟩=some (.int .i64 rg):=(qj HA12 1);clear hg2 hA2 hb2)
  |((with_reducible refine gate_dst (N:=3) rfl ?_);refine LiveRunW.zero_event 24 #[.int .i64 0,.int .i64 0,.slice none 0 0] rfl rfl qb ?_;intro g3 w3 hg3 hA3 hb3;have HG3:=ak hg3;have HA3:=ak hA3;have HB3:=ak hb3;have z0:w3.cell? ⟨g3,0,none⟩=some (.int .i64 0):=(qk hA3 0);have z1:w3.cell? ⟨g3,1,none⟩=some (.int .i64 0):=(qk hA3 1);have z2:w3.cell? ⟨g3,2,none⟩=some (.slice none 0 0):=(qk hA3 2);have y0:=blk_frozen hA3 0;have y1:=blk_frozen hA3 1;have y2:=blk_frozen hA3 2;clear hg3 hA3 hb3))
 have H0:Aside0 (CQ w (((w3.setCell ⟨g3,0,none⟩ (.int .i64 fn)).setCell ⟨g3,1,none⟩ (.int .i64 rg)).setCell ⟨g3,2,none⟩ (.slice none 0 0)) g1 g2 g3 fn rg Ab bs.length cb (.slice none 0 0) (bs.take 0)):=⟨by
  have e1:g1<w2.heap.size:=blk_lt HA12.out;have e2:g2<w2.heap.size:=blk_lt HA2.out;have h3:=HG3.out;have l3:w.heap.size≤g3:=Nat.le_trans HB2.out.size h3;have hX:Below w2.heap.size w2 (((w3.setCell ⟨g3,0,none⟩ (.int .i64 fn)).setCell ⟨g3,1,none⟩ (.int .i64 rg)).setCell ⟨g3,2,none⟩ (.slice none 0 0)):=below_set (below_set (below_set HB3.out h3) h3) h3;exact ⟨below_step HB2.out hX,(hX.block g1 e1).trans HA12.out,(hX.block g2 e2).trans HA2.out,blk_put (blk_put (blk_put HA3.out 0 _ rfl) 1 _ rfl) 2 _ rfl,Kd.R_nil _ _ _ _ _,by omega,by omega,HG2.out,l3⟩⟩
 clear HA1 HB1 HG2 HA2 HB2 HA12 u0 u1 HG3 HA3 HB3 z0 z1 z2 y0 y1 y2
 go_loopw [4] (fun v4 wi=>∃ (b:Nat) (v:Value),b≤bs.length∧v4= .int .i64 b∧Aside0 (CQ w wi g1 g2 g3 fn rg Ab bs.length cb v (bs.take b))) (fun v4 _=>bs.length-(intOf v4).toNat)
 case atStart=>exact ⟨0,_,by omega,rfl,H0⟩
 case round =>
  clear H0;obtain ⟨b,v,hb,rfl,HR⟩:=hrel;obtain ⟨Av,cv,hv⟩:=Kd.R_slice HR.out.own;subst hv;have u2:wr.cell? ⟨g1,2,none⟩=some (.slice Ab bs.length cb):=(blk_cell HR.out.b1 2).trans rfl
  by_cases hlt:b<bs.length
  ·have HST:=ak (take_43' bs b hlt);have HBL:=ak hlt;obtain ⟨ad,A1,c1,A2,c2,e,hx0,hx1,hx2,l1,hg1,l2,hg2⟩:=rd_block HC.out HR.out.below b hlt;subst e;have HFI:=ak (HFT.out.ins b hlt);have HFN:=ak (HFT.out.next b hlt);have HFE:=ak (HFT.out.each b hlt);have hbi:(b:Int)<bs.length:=by omega
   have HLEN:Aside0 ((bs.take b).length=b):=⟨by rw [List.length_take];omega⟩
   generalize bs.take b=ys at HR HST HLEN;generalize rd_T43 bs b=B at *;obtain ⟨pc,ins,nx⟩:=B;simp only at hx0 hx1 hx2 l1 hg1 l2 hg2;have HFI:Aside0 (ins.length*96≤140737488355328):=⟨HFI.out⟩
   have HFN:Aside0 (nx.length*8≤140737488355328):=⟨HFN.out⟩
   have HFE:Aside0 (∀ i,i<ins.length→Fit47 (rd_T47 ins i)):=⟨HFE.out⟩
   have hmi:ins.length≤9223372036854775806:=by have:=HFI.out;omega
   have HI1:=ak hg1;have HN2:=ak hg2;have HN2c:=ak l2;have HX1:=ak hx1;have HD:Aside0 (Below wr.heap.size wr wr.drew):=⟨below_drew1 (Below.refl _ _)⟩
   have Z0:Aside0 (wr.drew.cell? ⟨g1,2,none⟩=some (.slice (some ad) bs.length cb)):=⟨u2⟩
   have Z1:Aside0 (wr.drew.cell? (ad.add (b*3))=some (.int .i64 pc)):=⟨hx0⟩
   have Z2:Aside0 (wr.drew.cell? ⟨(ad.add (b*3)).block,(ad.add (b*3)).off+2,none⟩=some (.slice A2 nx.length c2)):=⟨hx2⟩
   have CI:Aside0 (∀ W,Below wr.heap.size wr W→Calls Try.prog 40 #[.slice A2 nx.length c2] W fun e w'=>∃ v,e= .returned v∧Kd.R (Kd.int .i64) 3 w' W.heap.size (fun _=>True) v nx∧Below W.heap.size W w'):=⟨fun W hW=>ints40_calls nx A2 c2 W (Kd.C_below HN2.out (below_step HR.out.below hW)) HN2c.out HFN.out⟩
   clear hg1 hg2 l1 l2 hx0 hx1 hx2 hlt hb
   go_wp2_with fail
   clear u2;refine start_ (n:=16) (S:=fun w'=>w'.cell? ⟨g1,2,none⟩=some (.slice (some ad) bs.length cb)∧w'.cell? (ad.add (b*3))=some (.int .i64 pc)∧w'.cell? ⟨(ad.add (b*3)).block,(ad.add (b*3)).off+2,none⟩=some (.slice A2 nx.length c2)) (ds:=[15]) (bz 16 0) (by kernel_rfl) rfl rfl ⟨Z0.out,Z1.out,Z2.out⟩ (fun hHeld=>?_);refine with_tabW r19_5_tab r19_5_bits (fun HT_ HW_=>?_);generalize World.drew wr=W2 at HD Z0 Z1 Z2 hHeld ⊢;refine pu 0 20 16 1 ?_;refine tk 1 21 16 2 ?_;refine pu 2 22 16 3 ?_;refine pu 3 23 16 4 ?_;refine pu 4 24 16 5 ?_
   refine tk 5 25 16 6 ?_;refine pu 6 26 16 7 ?_;refine tk 7 27 16 8 ?_;refine pu 8 28 16 9 ?_;refine pu 9 29 16 10 ?_;refine pu 10 30 16 11 ?_;refine tk 11 31 16 12 ?_;refine two_ (i:=12) (j:=14) (Ni:=some 32) (Nj:=some 5) (bz 16 13) (bm 16 20479) rfl rfl rfl rfl (two_of HT_.out (by kernel_rfl)) (by decide) (by decide) (fun K hK=>?_) (fun K hK=>?_);refine goes_ Try.func40 (by kernel_rfl) rfl #[.slice A2 nx.length c2] (by rfl) rfl rfl (by (try simp only [List.map_toArray,List.map_cons,List.map_nil]);first |done |rfl) ?_;refine (CI.out W2 HD.out).mono ?_
   rintro e w5 ⟨vn,rfl,ho,hb5⟩;refine ⟨_,rfl,?_⟩;obtain ⟨An,cn,rfl⟩:=Kd.R_slice ho;have HO:=ak ho;have HB5:=ak hb5;clear ho hb5;have Q0:=ak (pw_cell_below HB5.out Z0.out);have Q1:=ak (pw_cell_below HB5.out Z1.out);have Q2:=ak (pw_cell_below HB5.out Z2.out);refine hK.out _ _ ⟨Q0.out,Q1.out,Q2.out⟩ (fun hHeld=>?_);clear hK K;refine norm_ (a':=?_) ?_ ?_;rotate_left
   ·show Act.put _ (some 32) _=_
    simp only [Act.put,sA,sB,sC,i64_w,i32_w];rfl
   refine pu 13 33 16 14 ?_;refine one_ (i:=14) (N:=some 5) (bz 16 15) rfl rfl (one_of HT_.out (by kernel_rfl)) (by decide) (fun K hK=>?_);refine value_ (w1:=?_) (v:=?_) (by rfl) rfl ?_ ?_;rotate_left 2
   ·go_simp;constructor
    ·rfl
    ·rfl
   refine hK.out _ _ ⟨(World.cell?_alloc_lt _ _ _ (World.block_lt_of_cell? _ _ Q0.out)).trans Q0.out,(World.cell?_alloc_lt _ _ _ (World.block_lt_of_cell? _ _ Q1.out)).trans Q1.out,(World.cell?_alloc_lt _ _ _ (World.block_lt_of_cell? _ _ Q2.out)).trans Q2.out⟩ (fun hHeld=>?_);clear hK K;refine norm_ (a':=?_) ?_ ?_;rotate_left
   ·show Act.put _ (some 5) _=_
    simp only [Act.put,sA,sB,sC,i64_w,i32_w];rfl
   refine last_ (i:=15) (N:=none) (bz 16 16) rfl rfl (one_of HT_.out (by kernel_rfl)) (by decide) (fun K hK=>?_);have z0:(w5.alloc (.cells #[.int .i64 0,.slice none 0 0,.slice none 0 0] 43)).cell? ⟨w5.heap.size,0,none⟩=some (.int .i64 0):=(blk_cell (blk_new w5 (.cells #[.int .i64 0,.slice none 0 0,.slice none 0 0] 43)) 0).trans rfl;have y0:=blk_frozen (blk_new w5 (.cells #[.int .i64 0,.slice none 0 0,.slice none 0 0] 43)) 0
   have z1:(w5.alloc (.cells #[.int .i64 0,.slice none 0 0,.slice none 0 0] 43)).cell? ⟨w5.heap.size,1,none⟩=some (.slice none 0 0):=(blk_cell (blk_new w5 (.cells #[.int .i64 0,.slice none 0 0,.slice none 0 0] 43)) 1).trans rfl;have y1:=blk_frozen (blk_new w5 (.cells #[.int .i64 0,.slice none 0 0,.slice none 0 0] 43)) 1;have z2:(w5.alloc (.cells #[.int .i64 0,.slice none 0 0,.slice none 0 0] 43)).cell? ⟨w5.heap.size,2,none⟩=some (.slice none 0 0):=(blk_cell (blk_new w5 (.cells #[.int .i64 0,.slice none 0 0,.slice none 0 0] 43)) 2).trans rfl
   have y2:=blk_frozen (blk_new w5 (.cells #[.int .i64 0,.slice none 0 0,.slice none 0 0] 43)) 2;refine skip_ (w1:=?_) (by rfl) rfl ?_ ?_;rotate_left
   ·go_simp;rfl
   refine hK.out _ _ ?_;clear hK K;refine done_ (done_of HT_.out (by kernel_rfl)) ?_;have HNW:=ak (cn_first (below_step HD.out HB5.out) (Kd.R_lower HO.out HD.out.size) pc);clear z0 z1 z2 y0 y1 y2 Q0 Q1 Q2 HO HB5 Z0 Z1 Z2 HD;generalize w5.alloc (.cells #[.int .i64 pc,.slice none 0 0,.slice An nx.length cn] 43)=wn at HNW ⊢;generalize w5.heap.size=g5 at HNW ⊢;rotate_left;refine value_ (w1:=?_) (v:=?_) (by rfl) rfl ?_ ?_;rotate_left 2
   ·go_simp;constructor
    ·rfl
    ·rfl
   refine hK.out _ _ ⟨(World.cell?_alloc_lt _ _ _ (World.block_lt_of_cell? _ _ Z0.out)).trans Z0.out,(World.cell?_alloc_lt _ _ _ (World.block_lt_of_cell? _ _ Z1.out)).trans Z1.out,(World.cell?_alloc_lt _ _ _ (World.block_lt_of_cell? _ _ Z2.out)).trans Z2.out⟩ (fun hHeld=>?_);clear hK K;refine norm_ (a':=?_) ?_ ?_;rotate_left
   ·show Act.put _ (some 5) _=_
    simp only [Act.put,sA,sB,sC,i64_w,i32_w];rfl
   refine one_ (i:=12) (N:=some 32) (bm 16 24575) rfl rfl (one_of HT_.out (by kernel_rfl)) (by decide) (fun K hK=>?_);refine goes_ Try.func40 (by kernel_rfl) rfl #[.slice A2 nx.length c2] (by rfl) rfl rfl (by (try simp only [List.map_toArray,List.map_cons,List.map_nil]);first |done |rfl) ?_;refine (CI.out _ (below_alloc HD.out (.cells #[.int .i64 0,.slice none 0 0,.slice none 0 0] 43))).mono ?_;rintro e w5 ⟨vn,rfl,ho,hb5⟩;refine ⟨_,rfl,?_⟩;obtain ⟨An,cn,rfl⟩:=Kd.R_slice ho;have HO:=ak ho;have HB5:=ak hb5;clear ho hb5
   have H10:Aside0 (w5.heap[W2.heap.size]? =some (.cells #[.int .i64 0,.slice none 0 0,.slice none 0 0] 43 (0,0))):=⟨(HB5.out.block _ (by simp)).trans (blk_new W2 _)⟩
   have Q0:=ak (pw_cell_below HB5.out ((World.cell?_alloc_lt _ _ _ (World.block_lt_of_cell? _ _ Z0.out)).trans Z0.out));have Q1:=ak (pw_cell_below HB5.out ((World.cell?_alloc_lt _ _ _ (World.block_lt_of_cell? _ _ Z1.out)).trans Z1.out));have Q2:=ak (pw_cell_below HB5.out ((World.cell?_alloc_lt _ _ _ (World.block_lt_of_cell? _ _ Z2.out)).trans Z2.out));refine hK.out _ _ ⟨Q0.out,Q1.out,Q2.out⟩ (fun hHeld=>?_);clear hK K;refine norm_ (a':=?_) ?_ ?_;rotate_left
   ·show Act.put _ (some 32) _=_
    simp only [Act.put,sA,sB,sC,i64_w,i32_w];rfl
   refine pu 13 33 16 15 ?_;refine last_ (i:=15) (N:=none) (bz 16 16) rfl rfl (one_of HT_.out (by kernel_rfl)) (by decide) (fun K hK=>?_);have z0:w5.cell? ⟨W2.heap.size,0,none⟩=some (.int .i64 0):=qj H10 0;have y0:=ql H10 0;have z1:w5.cell? ⟨W2.heap.size,1,none⟩=some (.slice none 0 0):=qj H10 1;have y1:=ql H10 1;have z2:w5.cell? ⟨W2.heap.size,2,none⟩=some (.slice none 0 0):=qj H10 2;have y2:=ql H10 2;refine skip_ (w1:=?_) (by rfl) rfl ?_ ?_;rotate_left
   ·go_simp;rfl
   refine hK.out _ _ ?_;clear hK K;refine done_ (done_of HT_.out (by kernel_rfl)) ?_;have HNW:=ak (cn_second HD.out.size (below_step (below_alloc HD.out (.cells #[.int .i64 0,.slice none 0 0,.slice none 0 0] 43)) HB5.out) H10.out (Kd.R_lower (Kd.R_mono (Kd.R_bound HO.out) (fun k hk he=>by have:=hk.2.1;have hs:(W2.alloc (.cells #[.int .i64 0,.slice none 0 0,.slice none 0 0] 43)).heap.size=W2.heap.size+1:=(by simp);rw [hs] at this;omega)) (below_alloc HD.out (.cells #[.int .i64 0,.slice none 0 0,.slice none 0 0] 43)).size) pc)
   clear z0 z1 z2 y0 y1 y2 Q0 Q1 Q2 HO HB5 Z0 Z1 Z2;generalize ((w5.setCell ⟨W2.heap.size,0,none⟩ (.int .i64 pc)).setCell ⟨W2.heap.size,1,none⟩ (.slice none 0 0)).setCell ⟨W2.heap.size,2,none⟩ (.slice An nx.length cn)=wn at HNW ⊢;generalize W2.heap.size=g5 at HNW ⊢
   all_goals (
    go_wp2_with fail
    have H6:Aside0 (CN wr wn g5 pc (.slice none 0 0) (.slice An nx.length cn) (ins.take 0) nx):=⟨HNW.out⟩
    clear HNW;generalize wr=wo at *
    go_loopw [6] (fun v6 wi=>∃ (i:Nat) (vI:Value),i≤ins.length∧v6= .int .i64 i∧Aside0 (CN wo wi g5 pc vI (.slice An nx.length cn) (ins.take i) nx)) (fun v6 _=>ins.length-(intOf v6).toNat)
    case atStart=>exact ⟨0,_,by omega,rfl,H6⟩
    case round =>
     clear H6;obtain ⟨i,vI,hi,rfl,HN⟩:=hrel;obtain ⟨Ai,ci,hvI⟩:=Kd.R_slice HN.out.rI;subst hvI;have HQ:=ak (HR.out.next HN.out.below);have u2:wr.cell? ⟨g1,2,none⟩=some (.slice (some ad) bs.length cb):=(blk_cell HQ.out.b1 2).trans rfl;have hx1:=pw_cell_below HN.out.below HX1.out
     by_cases hlti:i<ins.length
     ·obtain ⟨ai,A3,e3,A7,e7,ea,hin,hrin⟩:=rd_ins HI1.out i hlti;subst ea;have HFX:=ak (HFE.out i hlti);have HTK:=ak (take_47 ins i hlti);have HLI:=ak hlti;have hii:(i:Int)<ins.length:=by omega
      have HLN:Aside0 ((ins.take i).length=i):=⟨by rw [List.length_take];omega⟩
      generalize rd_T47 ins i=x at hin hrin HFX HTK;generalize ins.take i=zs at HN HTK HLN;have hbw:=below_step HR.out.below HN.out.below;obtain ⟨q0,q1,q2,q3,q4,q5,q6,q7⟩:=hin.below hbw;have HXR:Aside0 (RIn wr x A3 e3 A7 e7):=⟨hrin.below hbw⟩
      have HLE:Aside0 ((zs.length+1)*96≤140737488355328):=⟨by have:=HLN.out;have:=HLI.out;have:=HFI.out;omega⟩
      clear hin hrin hbw hi hlti
      go_upto_region 10 with (first
       |(go_at_call 18;refine (copyIns_calls x A3 e3 A7 e7 _ HXR.out HFX.out).mono ?_;rintro e w10 ⟨v3,v7,rfl,ho3,ho7,hb10⟩;obtain ⟨B3,d3,rfl⟩:=Kd.R_slice ho3;obtain ⟨B7,d7,rfl⟩:=Kd.R_slice ho7;have HO3:=ak ho3;have HO7:=ak ho7;have HB10:=ak hb10;simp only [row47];clear ho3 ho7 hb10 u2 hx1 q0 q1 q2 q3 q4 q5 q6 q7)
       |((with_reducible refine gate_dst (N:=7) rfl ?_);refine box47_zero_event rfl rfl rfl ?_;intro g7 w12 hg7 hA7 hb7;have HG7:=ak hg7;have HA7:=ak hA7;have HB7:=ak hb7;have z0:w12.cell? ⟨g7,0,none⟩=some (.int .i64 0):=(qk hA7 0);have y0:=blk_frozen hA7 0;have z1:w12.cell? ⟨g7,1,none⟩=some (.int .i64 0):=(qk hA7 1);have y1:=blk_frozen hA7 1;have z2:w12.cell? ⟨g7,2,none⟩=some (.int .i64 0):=(qk hA7 2);have y2:=blk_frozen hA7 2;have z3:w12.cell? ⟨g7,3,none⟩=some (.slice none 0 0):=(qk hA7 3);have y3:=blk_frozen hA7 3;have z4:w12.cell? ⟨g7,4,none⟩=some (.int .i64 0):=(qk hA7 4);have y4:=blk_frozen hA7 4;have z5:w12.cell? ⟨g7,5,none⟩=some (.int .i64 0):=(qk hA7 5);have y5:=blk_frozen hA7 5;have z6:w12.cell? ⟨g7,6,none⟩=some (.int .i64 0):=(qk hA7 6);have y6:=blk_frozen hA7 6;have z7:w12.cell? ⟨g7,7,none⟩=some (.slice none 0 0):=(qk hA7 7);have y7:=blk_frozen hA7 7;clear hg7 hA7 hb7))
      have HX8:Aside0 (Below w10.heap.size w10 ((((((((w12.setCell ⟨g7,0,none⟩ (.int .i64 x.f0)).setCell ⟨g7,1,none⟩ (.int .i64 x.f1)).setCell ⟨g7,2,none⟩ (.int .i64 x.f2)).setCell ⟨g7,3,none⟩ (.slice B3 x.f3.length d3)).setCell ⟨g7,4,none⟩ (.int .i64 x.f4)).setCell ⟨g7,5,none⟩ (.int .i64 x.f5)).setCell ⟨g7,6,none⟩ (.int .i64 x.f6)).setCell ⟨g7,7,none⟩ (.slice B7 x.f7.length d7))):=⟨LiveRunW.put47_below HB7.out HG7.out _ _ _ _ _ _ _ _⟩
      have HP7:Aside0 (At47 ((((((((w12.setCell ⟨g7,0,none⟩ (.int .i64 x.f0)).setCell ⟨g7,1,none⟩ (.int .i64 x.f1)).setCell ⟨g7,2,none⟩ (.int .i64 x.f2)).setCell ⟨g7,3,none⟩ (.slice B3 x.f3.length d3)).setCell ⟨g7,4,none⟩ (.int .i64 x.f4)).setCell ⟨g7,5,none⟩ (.int .i64 x.f5)).setCell ⟨g7,6,none⟩ (.int .i64 x.f6)).setCell ⟨g7,7,none⟩ (.slice B7 x.f7.length d7)) g7 x B3 d3 B7 d7):=⟨put47_blk HA7.out rfl _ _ _ _ _ _ _ _⟩
      generalize ((((((((w12.setCell ⟨g7,0,none⟩ (.int .i64 x.f0)).setCell ⟨g7,1,none⟩ (.int .i64 x.f1)).setCell ⟨g7,2,none⟩ (.int .i64 x.f2)).setCell ⟨g7,3,none⟩ (.slice B3 x.f3.length d3)).setCell ⟨g7,4,none⟩ (.int .i64 x.f4)).setCell ⟨g7,5,none⟩ (.int .i64 x.f5)).setCell ⟨g7,6,none⟩ (.int .i64 x.f6)).setCell ⟨g7,7,none⟩ (.slice B7 x.f7.length d7))=w11 at HX8 HP7 ⊢;clear z0 y0 z1 y1 z2 y2 z3 y3 z4 y4 z5 y5 z6 y6 z7 y7 HA7 HB7;have HN11:=ak (HN.out.next (below_step HB10.out HX8.out));obtain ⟨q0,q1,q2,q3,q4,q5,q6,q7⟩:=cells47_of HP7.out
      have t1:w11.cell? ⟨g5,1,none⟩=some (.slice Ai zs.length ci):=(blk_cell HN11.out.b5 1).trans rfl
      go_wp2_with (first
       |((with_reducible refine gate_dst (N:=59) rfl ?_);at_builtin;refine Kd.R_append k47 (w0:=wo) wo.heap.size rfl (.tmp 56) (.tmp 58) 41 47 (.agg #[(.int .i64 0),(.int .i64 0),(.int .i64 0),(.slice none 0 0),(.int .i64 0),(.int .i64 0),(.int .i64 0),(.slice none 0 0)]) 96 rfl Try.underlying41 info47 rfl (by decide) (by omega) (.slice Ai zs.length ci) zs x [.int .i64 x.f0,.int .i64 x.f1,.int .i64 x.f2,.slice B3 x.f3.length d3,.int .i64 x.f4,.int .i64 x.f5,.int .i64 x.f6,.slice B7 x.f7.length d7] (fun k=>k≠g5∧some k≠(Value.slice An nx.length cn).ownBlock) (fun k=>wr.heap.size≤k) rfl rfl ?aP ?aK ?aF HN11.out.rI HN11.out.below HN11.out.below.size HLE.out ?_;(case aP=>exact k47_mkM _ _ _ x (Kd.R_lower (Kd.R_below (Kd.R_reok rfl HO3.out (fun b hb=>Kd.R_base HO3.out b hb)) HX8.out) HN.out.below.size) (Kd.R_lower (Kd.R_below (Kd.R_mono (Kd.R_bound HO7.out) (fun _ hk=>hk.2.1)) HX8.out) HN.out.below.size));(case aK=>exact fun k hk=>⟨⟨by have:=blk_lt HN.out.b5;omega,fun he=>by have:=Kd.R_lt HN.out.rN k he.symm;omega⟩,fun he=>by have:=Kd.R_lt HN.out.rI k he.symm;omega⟩);(case aF=>exact fun k hk=>⟨by have:=blk_lt HN11.out.b5;omega,fun he=>by have:=Kd.R_lt HN11.out.rN k he.symm;omega⟩);intro v10 w13 ho hb hg hat;have HP:=ak (HN11.out.push ho hb hg);obtain ⟨Aj,cj,rfl⟩:=Kd.R_slice ho;have hb5:=blk_grown HN11.out.b5 hg (fun he=>(HN11.out.rI.1 g5 he.symm).1 rfl);have t1b:w13.cell? ⟨g5,1,none⟩=some (.slice Ai zs.length ci):=(qk hb5 1);have y1b:=blk_frozen hb5 1;clear ho hb hg hat hb5 t1 q0 q1 q2 q3 q4 q5 q6 q7))
      clear t1b y1b
      go_roundw
      case rel =>
       have hh:=HP.out;rw [List.length_append,List.length_singleton] at hh;exact ⟨i+1,_,by have:=HLI.out;omega,by go_num,⟨by rw [HTK.out];exact hh⟩⟩
      case measure=>have:=HLI.out;simp [intOf];omega
     ·obtain rfl:i=ins.length:=by omega
      rw [List.take_length] at HN;have HLY:Aside0 ((ys.length+1)*56≤140737488355328):=⟨by have:=HLEN.out;have:=HFT.out.blocks;have:=HBL.out;omega⟩
      have n0:wr.cell? ⟨g5,0,none⟩=some (.int .i64 pc):=(blk_cell HN.out.b5 0).trans rfl;have n1:wr.cell? ⟨g5,1,none⟩=some (.slice Ai ins.length ci):=(blk_cell HN.out.b5 1).trans rfl;have n2:wr.cell? ⟨g5,2,none⟩=some (.slice An nx.length cn):=(blk_cell HN.out.b5 2).trans rfl;have t2:wr.cell? ⟨g3,2,none⟩=some (.slice Av ys.length cv):=(blk_cell HQ.out.b3 2).trans rfl;clear hlti hi
      go_wp2_with (first
       |((with_reducible refine gate_dst (N:=65) rfl ?_);at_builtin;refine Kd.R_append k43 (w0:=w) w.heap.size rfl (.tmp 62) (.tmp 64) 22 43 (.agg #[(.int .i64 0),(.slice none 0 0),(.slice none 0 0)]) 56 rfl Try.underlying22 info43 rfl (by decide) (by omega) (.slice Av ys.length cv) ys ⟨pc,ins,nx⟩ [.int .i64 pc,.slice Ai ins.length ci,.slice An nx.length cn] (fun k=>k≠g1∧k≠g2∧k≠g3) (fun k=>wo.heap.size≤k) rfl rfl ?aP ?aK ?aF HQ.out.own HQ.out.below HQ.out.below.size HLY.out ?_;(case aP=>exact k43_mkM _ _ _ (⟨pc,ins,nx⟩:S43) (Kd.R_lower (Kd.R_mono (Kd.R_bound HN.out.rI) (fun _ hk=>hk.2.1)) HR.out.below.size) (Kd.R_lower (Kd.R_reok rfl HN.out.rN (fun b hb=>Kd.R_base HN.out.rN b hb)) HR.out.below.size));(case aK=>intro k hk;have r1:=blk_lt HR.out.b1;have r2:=blk_lt HR.out.b2;have r3:=blk_lt HR.out.b3;exact ⟨⟨by omega,by omega,by omega⟩,fun he=>by have:=Kd.R_lt HR.out.own k he.symm;omega⟩);(case aF=>intro k hk;have r1:=blk_lt HQ.out.b1;have r2:=blk_lt HQ.out.b2;have r3:=blk_lt HQ.out.b3;exact ⟨by omega,by omega,by omega⟩);intro v6 w6 ho hb6 hg hat;have HP:=ak (HQ.out.push ho hb6 hg);obtain ⟨Aj,cj,rfl⟩:=Kd.R_slice ho;have hb3:=blk_grown HQ.out.b3 hg (fun he=>(HQ.out.own.1 g3 he.symm).2.2 rfl);have t2b:w6.cell? ⟨g3,2,none⟩=some (.slice Av ys.length cv):=(qk hb3 2);have y2b:=blk_frozen hb3 2;clear ho hb6 hg hat hb3 n0 n1 n2 t2 u2 hx1))
      clear t2b y2b
      go_roundw
      case rel =>
       have hh:=HP.out;rw [List.length_append,List.length_singleton] at hh;exact ⟨b+1,_,by have:=HBL.out;omega,by go_num,⟨by rw [HST.out];exact hh⟩⟩
      case measure=>have:=HBL.out;simp [intOf];omega)
  ·obtain rfl:b=bs.length:=by omega
   rw [List.take_length] at HR;have t0:wr.cell? ⟨g3,0,none⟩=some (.int .i64 fn):=(blk_cell HR.out.b3 0).trans rfl;have t1:wr.cell? ⟨g3,1,none⟩=some (.int .i64 rg):=(blk_cell HR.out.b3 1).trans rfl;have t2:wr.cell? ⟨g3,2,none⟩=some (.slice Av bs.length cv):=(blk_cell HR.out.b3 2).trans rfl;have z0:wr.cell? ⟨g2,0,none⟩=some (.int .i64 0):=(blk_cell HR.out.b2 0).trans rfl;have z1:wr.cell? ⟨g2,1,none⟩=some (.int .i64 0):=(blk_cell HR.out.b2 1).trans rfl;have z2:wr.cell? ⟨g2,2,none⟩=some (.slice none 0 0):=(blk_cell HR.out.b2 2).trans rfl
   have f0:=blk_frozen HR.out.b2 0;have f1:=blk_frozen HR.out.b2 1;have f2:=blk_frozen HR.out.b2 2
   go_wp2_with fail
   refine bodyPost_ret (results_cell_row rfl _ _ g2 24 #[.int .i64 fn,.int .i64 rg,.slice Av bs.length cv] (0,0) _ rfl (blk_put (blk_put (blk_put HR.out.b2 0 _ rfl) 1 _ rfl) 2 _ rfl) Try.underlying24 rfl (by kernel_rfl)) rfl ?_;exact ⟨_,rfl,Kd.R_mono (Kd.R_far (Kd.R_far (Kd.R_far HR.out.own (fun _ hk=>hk.2.1) _) (fun _ hk=>hk.2.1) _) (fun _ hk=>hk.2.1) _) (fun _ _=>trivial),below_set (below_set (below_set HR.out.below HR.out.l2) HR.out.l2) HR.out.l2⟩
end Go.Proofs.Ytklknkfoafdgpaa.LiveEqC
