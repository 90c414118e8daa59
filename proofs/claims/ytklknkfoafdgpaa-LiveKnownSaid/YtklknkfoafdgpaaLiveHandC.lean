import Derived.Test.YtklknkfoafdgpaaLiveHandB
namespace Go.Proofs.Ytklknkfoafdgpaa.LiveHandC
set_option maxHeartbeats 8000000
set_option maxRecDepth 100000
open RowKit YtklknkfoafdgpaaW.PrintWords YtklknkfoafdgpaaW.PrintLast YtklknkfoafdgpaaW.PrintMore
open PLiveKnown LiveT LiveB LiveInv LiveSet LiveAhead LiveEnd LiveSettled LiveCopied LiveAft LiveRunP LiveSame LiveFit LiveEvt LiveRefP LiveHandP LiveHandS LiveHandB
set_option linter.unusedVariables false
set_option linter.unusedSimpArgs false
def osA (l:List S43):List (List S82):=l.flatMap fun b=>osI b.f1
def ssA (l:List S43):List (List S78):=l.flatMap fun b=>ssI b.f1
def nsA (l:List S43):List (List Int):=l.map fun b=>b.f2++mI
def isA (l:List S43):List (List S47):=l.map fun b=>b.f1++m47
theorem take_43 (l:List S43) (i:Nat) (hi:i<l.length):l.take (i+1)=l.take i++[rd_T43 l i]:=by
 rw [rd43 l i hi,List.take_add_one,List.getElem?_eq_getElem hi];rfl
theorem osA_snoc (l:List S43) (x:S43):osA (l++[x])=osA l++osI x.f1:=by simp [osA]
theorem ssA_snoc (l:List S43) (x:S43):ssA (l++[x])=ssA l++ssI x.f1:=by simp [ssA]
theorem nsA_snoc (l:List S43) (x:S43):nsA (l++[x])=nsA l++[x.f2++mI]:=by simp [nsA]
theorem isA_snoc (l:List S43) (x:S43):isA (l++[x])=isA l++[x.f1++m47]:=by simp [isA]
theorem osA_le (l:List S43) (i:Nat) (hi:i<l.length):(osA (l.take i)).length+(osI (rd_T43 l i).f1).length≤(osA l).length:=by
 have h:l=l.take (i+1)++l.drop (i+1):=(List.take_append_drop _ _).symm;have h2:(osA l).length=(osA (l.take (i+1))).length+(osA (l.drop (i+1))).length:=by
  rw [←List.length_append];unfold osA;rw [←List.flatMap_append,←h]
 have h3:(osA (l.take (i+1))).length=(osA (l.take i)).length+(osI (rd_T43 l i).f1).length:=by
  rw [take_43 l i hi,osA_snoc,List.length_append]
 omega
theorem ssA_le (l:List S43) (i:Nat) (hi:i<l.length):(ssA (l.take i)).length+(rd_T43 l i).f1.length≤(ssA l).length:=by
 have h:l=l.take (i+1)++l.drop (i+1):=(List.take_append_drop _ _).symm;have h2:(ssA l).length=(ssA (l.take (i+1))).length+(ssA (l.drop (i+1))).length:=by
  rw [←List.length_append];unfold ssA;rw [←List.flatMap_append,←h]
 have h3:(ssA (l.take (i+1))).length=(ssA (l.take i)).length+(rd_T43 l i).f1.length:=by
  rw [take_43 l i hi,ssA_snoc,List.length_append]
  simp [ssI]
 omega
theorem m43_take (j:Nat) (hj:j<16):m43.take (j+1)=m43.take j++[⟨-7-(j:Int),[],[]⟩]:=by
 rw [List.take_add_one]
 congr 1
 simp [m43,hj]
structure FitH (bs:List S43):Prop where
 blocks:(bs.length+16)*56≤140737488355328
 ins:∀ b,b<bs.length→FitI (rd_T43 bs b).f1
 next:∀ b,b<bs.length→((rd_T43 bs b).f2.length+16)*8≤140737488355328
 os:(osA bs).length*24≤140737488355328
 ss:(ssA bs).length*24≤140737488355328
structure HK (w0 W:World) (gh:Nat) (fn rg:Int) (A:Option Addr) (n c:Nat) (vO vS vN vI:Value) (bs:List S43):Prop where
 below:Below w0.heap.size w0 W
 blk:W.heap[gh]? =some (.cells #[.int .i64 fn,.int .i64 rg,.slice A n c,vO,vS,vN,vI,.slice A (n+16) c] 34 (0,0))
 O:Kd.R (Kd.slice 82 k82) 44 W w0.heap.size (fun _=>True) vO (osA bs)
 S:Kd.R (Kd.slice 78 k78) 45 W w0.heap.size (fun _=>True) vS (ssA bs)
 N:Kd.R (Kd.slice 3 (Kd.int .i64)) 25 W w0.heap.size (fun _=>True) vN (nsA bs)
 I:Kd.R (Kd.slice 47 k47) 41 W w0.heap.size (fun _=>True) vI (isA bs)
 B:Kd.S k43 43 W w0.heap.size (fun _=>True) (.slice A (n+16) c) (bs++m43)
 low:w0.heap.size≤gh
 len:n=bs.length
theorem HK.next {w0 W W1:World} {gh:Nat} {fn rg:Int} {A:Option Addr} {n c:Nat} {vO vS vN vI:Value} {bs:List S43} (h:HK w0 W gh fn rg A n c vO vS vN vI bs) (hb:Below W.heap.size W W1):HK w0 W1 gh fn rg A n c vO vS vN vI bs:=
 ⟨below_step h.below hb,(hb.block gh (blk_lt h.blk)).trans h.blk,Kd.R_below h.O hb,Kd.R_below h.S hb,Kd.R_below h.N hb,Kd.R_below h.I hb,Kd.S_below h.B hb,h.low,h.len⟩
structure CS (w0 W:World) (gh g1:Nat) (vO vS vN vI vB:Value) (bs ys:List S43) (c1:Array Value):Prop where
 hd:HD w0 W gh vO vS vN vI vB (osA bs) (ssA bs) (nsA bs) (isA bs) ys W.heap.size W.heap.size W.heap.size W.heap.size
 b1:W.heap[g1]? =some (.cells c1 24 (0,0))
section
variable {w0 W W1 W2:World} {gh g1:Nat} {vO vS vN vI vB:Value} {bs ys:List S43} {c1:Array Value}
theorem CS.next (h:CS w0 W gh g1 vO vS vN vI vB bs ys c1) (hb:Below W.heap.size W W1):CS w0 W1 gh g1 vO vS vN vI vB bs ys c1:=
 ⟨(h.hd.next hb).bound,(hb.block g1 (blk_lt h.b1)).trans h.b1⟩
theorem CS.push {v1:Value} {ys1:List S43} (h:CS w0 W gh g1 vO vS vN vI vB bs ys c1) (hB:Kd.S k43 43 W1 w0.heap.size (fun _=>True) v1 ys1) (hb:Below w0.heap.size w0 W1) (hg:W.grownBy W1 vB.ownBlock):CS w0 (W1.setCell ⟨gh,7,none⟩ v1) gh g1 vO vS vN vI v1 bs ys1 c1:=by
 have h34:=blk_grown h.hd.blk hg (Kd.S_ne h.hd.B h.hd.blk (by decide));have h1:=blk_grown h.b1 hg (Kd.S_ne h.hd.B h.b1 (by decide));exact ⟨(h.hd.pushB hB hb hg).bound,blk_far h1 (p:=⟨gh,7,none⟩) (blk_ne h1 h34 (by decide)) v1⟩
end
theorem row_set3S {α:Type} {d:Kd α} {e b g t:Nat} {ok:Nat→Prop} {W:World} {u:Value} {xs:List α} {cs:Array Value} (h:Kd.S d e W b ok u xs) (hb:W.heap[g]? =some (.cells cs t (0,0))) (ht:∀ q,q∈e::d.E→q≠t) (x y z:Value):Kd.S d e (((W.setCell ⟨g,0,none⟩ x).setCell ⟨g,1,none⟩ y).setCell ⟨g,2,none⟩ z) b ok u xs:=by
 obtain ⟨f,h⟩:=h;exact ⟨f,row_set3 h hb ht x y z⟩
def r10_6_T:Bool×List (List Nat×List Nat):=(true,[([],[]),([],[]),([1],[1]),([2],[2]),([3],[3]),([],[]),([5],[5]),([4,6],[4,6]),([0,0,1,2,3,4,5,6,7],[0]),([8,0,1,2,3,4,5,6,7],[8]),([9,7,7,0,1,2,3,4,5,6,7],[7,9])])
def r10_6_B:List Nat:=[0,0,2,6,14,0,32,126,255,511,1023]
theorem r10_6_tab:rtab .any (opsOf Try.f10 6)=r10_6_T:=by kernel_rfl
theorem r10_6_bits:waitsOk r10_6_T.2 r10_6_B=true:=by kernel_rfl
theorem hand_calls (fn rg:Int) (Ab:Option Addr) (cb:Nat) (bs:List S43) (w:World) (hC:Kd.C k43 w Ab bs.length bs) (hf:FitH bs) :
  Calls Try.prog 10 #[.agg #[.int .i64 fn,.int .i64 rg,.slice Ab bs.length cb]] w fun e w'=>∃ gh A c vO vS vN vI,e= .returned (.pointer (some ⟨gh,0,none⟩))∧HK w w' gh fn rg A bs.length c vO vS vN vI bs:=by
 have HC:=ak hC;have HFT:=ak hf;have hbm:bs.length≤9223372036854775807:=Kd.C_max hC;clear hC hf
 go_enter Try.func10,Try.ntmps10
 go_wp2_with (first
  |((with_reducible refine gate_dst (N:=1) rfl ?_);refine LiveRunW.zero_event 24 #[.int .i64 fn,.int .i64 rg,.slice Ab bs.length cb] rfl rfl qb ?_;intro g1 w1 hg1 hA1 hb1;have HA1:=ak hA1;have HB1:=ak hb1;clear hg1 hA1 hb1)
  |((with_reducible refine gate_dst (N:=8) rfl ?_);refine LiveRunW.zero_event 34 (hand34 (.slice none 0 0) (.slice none 0 0) (.slice none 0 0) (.slice none 0 0) (.slice none 0 0)) rfl rfl (by simp only [hand34];first |(go_simp;done) |(go_simp;rfl)) ?_;intro gh w2 hgh hAh hb2;have HGH:=ak hgh;have HAH:=ak hAh;have HB2:=ak (below_step HB1.out hb2);have HA2:=ak ((hb2.block g1 (blk_lt HA1.out)).trans HA1.out);clear hgh hAh hb2))
 have H0:Aside0 (CS w w2 gh g1 (.slice none 0 0) (.slice none 0 0) (.slice none 0 0) (.slice none 0 0) (.slice none 0 0) (bs.take 0) (bs.take 0) #[.int .i64 fn,.int .i64 rg,.slice Ab bs.length cb]):=⟨⟨⟨HB2.out,HAH.out,Kd.R_nil _ _ _ _ _,Kd.R_nil _ _ _ _ _,Kd.R_nil _ _ _ _ _,Kd.R_nil _ _ _ _ _,Kd.S_nil _ _ _ _ _,Nat.le_trans HB1.out.size HGH.out⟩,HA2.out⟩⟩
 clear HA1 HB1 HGH HAH HB2 HA2
 go_loopw [4] (fun v4 wi=>∃ (b:Nat) (vO vS vN vI vB:Value),b≤bs.length∧v4= .int .i64 b∧Aside0 (CS w wi gh g1 vO vS vN vI vB (bs.take b) (bs.take b) #[.int .i64 fn,.int .i64 rg,.slice Ab bs.length cb])) (fun v4 _=>bs.length-(intOf v4).toNat)
 case atStart=>exact ⟨0,_,_,_,_,_,by omega,rfl,H0⟩
 case round =>
  clear H0;obtain ⟨b,vO,vS,vN,vI,vB,hb,rfl,HH⟩:=hrel;obtain ⟨Av,cv,hvb⟩:=Kd.S_slice HH.out.hd.B;subst hvb;have hyl:(bs.take b).length=b:=by rw [List.length_take];omega
  have u2:wr.cell? ⟨g1,2,none⟩=some (.slice Ab bs.length cb):=(blk_cell HH.out.b1 2).trans rfl
  by_cases hlt:b<bs.length
  ·obtain ⟨ad,A1,c1,A2,c2,e,hx0,hx1,hx2,l1,hg1,l2,hg2⟩:=rd_block HC.out HH.out.hd.below b hlt;subst e;have HT:=ak (take_43 bs b hlt);have HBL:=ak hlt;have hbi:(b:Int)<bs.length:=by omega
   have ho:=osA_le bs b hlt;have hs:=ssA_le bs b hlt;have hn1:(nsA (bs.take b)).length=b:=by simp [nsA];omega
   have hn2:(isA (bs.take b)).length=b:=by simp [isA];omega
   have HLO:Aside0 (((osA (bs.take b)).length+(osI (rd_T43 bs b).f1).length)*24≤140737488355328):=⟨by have:=HFT.out.os;omega⟩
   have HLS:Aside0 (((ssA (bs.take b)).length+(rd_T43 bs b).f1.length)*24≤140737488355328):=⟨by have:=HFT.out.ss;omega⟩
   have HLN:Aside0 (((nsA (bs.take b)).length+1)*24≤140737488355328):=⟨by have:=HFT.out.blocks;omega⟩
   have HLI:Aside0 (((isA (bs.take b)).length+1)*24≤140737488355328):=⟨by have:=HFT.out.blocks;omega⟩
   have HLY:Aside0 (((bs.take b).length+1)*56≤140737488355328):=⟨by have:=HFT.out.blocks;omega⟩
   have HFI:=ak (HFT.out.ins b hlt);have HFN:=ak (HFT.out.next b hlt);have HG1:=ak hg1;have HG2:=ak hg2;clear ho hs hn1 hn2 hyl hlt hb l1 l2 hg1 hg2;generalize rd_T43 bs b=B at *;generalize hz:bs.take b=ys at *;clear hz
   go_upto_region 6 with (first
    |(go_at_call 27;refine (hblock_calls w _ gh vO vS vN vI (.slice Av ys.length cv) _ _ _ _ _ _ _ _ _ HH.out.hd (Nat.le_refl _) B.f0 B.f1 B.f2 A1 A2 c1 c2 HG1.out HG2.out HFI.out HFN.out HLO.out HLS.out HLN.out HLI.out).mono ?_;rintro e w3 ⟨v1,v2,vO1,vS1,vN1,vI1,rfl,hd3,hr1,hr2,hk3⟩;obtain ⟨B1,d1,rfl⟩:=Kd.R_slice hr1;obtain ⟨B2,d2,rfl⟩:=Kd.R_slice hr2;have HD3:=ak hd3;have HR1:=ak hr1;have HR2:=ak hr2;have HK3:=ak hk3;clear hd3 hr1 hr2 hk3 hx0 hx1 hx2 u2)
    |((with_reducible refine gate_dst (N:=5) rfl ?_);refine LiveRunW.zero_event 43 #[.int .i64 0,.slice none 0 0,.slice none 0 0] rfl rfl qb ?_;intro g5 w5 hg5 hA5 hb5;have HG5:=ak hg5;have HA5:=ak hA5;have HB5:=ak hb5;have z0:w5.cell? ⟨g5,0,none⟩=some (.int .i64 0):=(qk hA5 0);have z1:w5.cell? ⟨g5,1,none⟩=some (.slice none 0 0):=(qk hA5 1);have z2:w5.cell? ⟨g5,2,none⟩=some (.slice none 0 0):=(qk hA5 2);have y0:=blk_frozen hA5 0;have y1:=blk_frozen hA5 1;have y2:=blk_frozen hA5 2;clear hg5 hA5 hb5))
   have HWM:Aside0 (Below w3.heap.size w3 (((w5.setCell ⟨g5,0,none⟩ (.int .i64 B.f0)).setCell ⟨g5,1,none⟩ (.slice B1 B.f1.length d1)).setCell ⟨g5,2,none⟩ (.slice B2 B.f2.length d2))):=⟨below_set (below_set (below_set HB5.out HG5.out) HG5.out) HG5.out⟩
   have HMB:Aside0 ((((w5.setCell ⟨g5,0,none⟩ (.int .i64 B.f0)).setCell ⟨g5,1,none⟩ (.slice B1 B.f1.length d1)).setCell ⟨g5,2,none⟩ (.slice B2 B.f2.length d2)).heap[g5]? =some (.cells #[.int .i64 B.f0,.slice B1 B.f1.length d1,.slice B2 B.f2.length d2] 43 (0,0))):=⟨blk_put (blk_put (blk_put HA5.out 0 _ rfl) 1 _ rfl) 2 _ rfl⟩
   have HCS3:Aside0 (CS w w3 gh g1 vO1 vS1 vN1 vI1 (.slice Av ys.length cv) (ys++[B]) ys #[.int .i64 fn,.int .i64 rg,.slice (some ad) bs.length cb]):=⟨⟨by rw [osA_snoc,ssA_snoc,nsA_snoc,isA_snoc];exact HD3.out.bound,HK3.out.blk HH.out.b1 (by decide)⟩⟩
   have HB3:Aside0 (Kd.S k43 43 w3 w.heap.size (fun k=>k<wr.heap.size) (.slice Av ys.length cv) ys):=⟨HD3.out.B⟩
   have HWS:Aside0 (wr.heap.size≤w3.heap.size):=⟨HK3.out.size⟩
   have HVB:Aside0 (∀ k,(Value.slice Av ys.length cv).ownBlock=some k→k<wr.heap.size):=⟨(Kd.S_R HH.out.hd.B).1⟩
   generalize (((w5.setCell ⟨g5,0,none⟩ (.int .i64 B.f0)).setCell ⟨g5,1,none⟩ (.slice B1 B.f1.length d1)).setCell ⟨g5,2,none⟩ (.slice B2 B.f2.length d2))=wm at HWM HMB ⊢;clear z0 z1 z2 y0 y1 y2 HA5 HB5 w5 HD3;have HWD:=ak (below_step HWM.out (below_drew1 (Below.refl _ wm)));have HCM:=ak (HCS3.out.next HWD.out);have HMB:Aside0 (wm.drew.heap[g5]? =some (.cells #[.int .i64 B.f0,.slice B1 B.f1.length d1,.slice B2 B.f2.length d2] 43 (0,0))):=⟨HMB.out⟩
   have HR1:=ak (Kd.R_below HR1.out HWD.out);have HB3:=ak (Kd.S_below HB3.out HWD.out);have HR2:=ak (Kd.R_below HR2.out HWD.out);refine start_ (n:=11) (S:=fun w'=>w'.cell? ⟨gh,7,none⟩=some (.slice Av ys.length cv)∧w'.cell? ⟨g5,0,none⟩=some (.int .i64 B.f0)∧w'.cell? ⟨g5,1,none⟩=some (.slice B1 B.f1.length d1)∧w'.cell? ⟨g5,2,none⟩=some (.slice B2 B.f2.length d2)) (ds:=[10]) (bz 11 0) (by kernel_rfl) rfl rfl ⟨(blk_cell HCM.out.hd.blk 7).trans rfl,qj HMB 0,qj HMB 1,qj HMB 2⟩ (fun hHeld=>?_);refine with_tabW r10_6_tab r10_6_bits (fun HT_ HW_=>?_)
   generalize World.drew wm=W2 at HCM HMB HR1 HR2 HWD HB3 hHeld ⊢;refine pu 0 23 11 1 ?_;refine pu 1 24 11 2 ?_;refine pu 2 25 11 3 ?_;refine pu 3 26 11 4 ?_;refine tk 4 27 11 5 ?_;refine tk 5 28 11 6 ?_;refine one_ (i:=6) (N:=some 29) (bz 11 7) rfl rfl (one_of HT_.out (by kernel_rfl)) (by decide) (fun K hK=>?_);refine value_ (w1:=?_) (v:=?_) (by rfl) rfl ?_ ?_;rotate_left 2
   ·go_simp;constructor
    ·rfl
    ·rfl
   have HC6:=ak (HCM.out.next (below_alloc (Below.refl _ W2) (.cells #[.int .i64 B.f0,.slice B1 B.f1.length d1,.slice B2 B.f2.length d2] 43 (0,0))));have HM6:Aside0 ((W2.alloc (.cells #[.int .i64 B.f0,.slice B1 B.f1.length d1,.slice B2 B.f2.length d2] 43 (0,0))).heap[g5]? =some (.cells #[.int .i64 B.f0,.slice B1 B.f1.length d1,.slice B2 B.f2.length d2] 43 (0,0))):=⟨blk_alloc HMB.out _⟩
   refine hK.out _ _ ⟨(blk_cell HC6.out.hd.blk 7).trans rfl,qj HM6 0,qj HM6 1,qj HM6 2⟩ (fun hHeld=>?_);clear hK K;refine norm_ (a':=?_) ?_ ?_;rotate_left
   ·show Act.put _ (some 29) _=_
    simp only [Act.put,sA,sB,sC,i64_w,i32_w];rfl
   refine one_ (i:=7) (N:=some 30) (bz 11 8) rfl rfl (one_of HT_.out (by kernel_rfl)) (by decide) (fun K hK=>?_);refine Kd.S_append_step k43 (w0:=w) w.heap.size (by rfl) (.tmp 27) (.tmp 29) 22 43 (.agg #[(.int .i64 0),(.slice none 0 0),(.slice none 0 0)]) 56 rfl Try.underlying22 info43 rfl (by decide) (by omega) (.slice Av ys.length cv) ys B [.int .i64 B.f0,.slice B1 B.f1.length d1,.slice B2 B.f2.length d2] (fun _=>True) (fun k=>wr.heap.size≤k) rfl rfl ?aP ?aK ?aF (Kd.S_mono HB3.out (fun k hk=>⟨trivial,fun h2=>by omega⟩)) HCM.out.hd.below HCM.out.hd.below.size HLY.out ?_
   case aP=>exact k43_mkM _ _ _ B (Kd.R_lower (Kd.R_mono (Kd.R_bound HR1.out) (fun _ hk=>hk.2.1)) HH.out.hd.below.size) (Kd.R_lower (Kd.R_mono (Kd.R_bound HR2.out) (fun _ hk=>hk.2.1)) HH.out.hd.below.size)
   case aK=>exact fun k hk=>⟨trivial,fun he=>by have:=HVB.out k he.symm;omega⟩
   case aF=>exact fun _ _=>trivial
   intro v6 w6 ho hb hg hat;obtain ⟨A6,c6,hv6⟩:=Kd.S_slice ho;rw [List.length_append,List.length_singleton] at hv6;subst hv6;have HP:=ak (HCM.out.push ho hb hg);have H34:=ak (blk_grown HCM.out.hd.blk hg (Kd.S_ne HCM.out.hd.B HCM.out.hd.blk (by decide)));have HM7:=ak (blk_grown HMB.out hg (fun he=>by have:=HVB.out g5 he.symm;have:=HG5.out;have:=HWS.out;omega));clear ho hb hg hat;refine hK.out _ _ ⟨qj H34 7,qj HM7 0,qj HM7 1,qj HM7 2⟩ (fun hHeld=>?_);clear hK K;refine norm_ (a':=?_) ?_ ?_;rotate_left
   ·show Act.put _ (some 30) _=_
    simp only [Act.put,sA,sB,sC,i64_w,i32_w];rfl
   refine pu 8 31 11 9 ?_;refine pu 9 32 11 10 ?_;refine last_ (i:=10) (N:=none) (bz 11 11) rfl rfl (one_of HT_.out (by kernel_rfl)) (by decide) (fun K hK=>?_);have t7:w6.cell? ⟨gh,7,none⟩=some (.slice Av ys.length cv):=qj H34 7;have y7:=ql H34 7;refine skip_ (w1:=?_) (by rfl) rfl ?_ ?_;rotate_left
   ·go_simp;rfl
   refine hK.out _ _ ?_;clear hK K;refine done_ (done_of HT_.out (by kernel_rfl)) ?_;clear t7 y7
   go_wp2_with fail
   go_roundw
   case rel =>
    have h:=HP.out;rw [←HT.out] at h;exact ⟨b+1,_,_,_,_,_,by have:=HBL.out;omega,by go_num,⟨h⟩⟩
   case measure=>simp [intOf];omega
  ·obtain rfl:b=bs.length:=by omega
   rw [List.take_length] at HH;clear hlt hb hyl
   go_wp2_with fail
   clear u2;have H0:Aside0 (CS w wr gh g1 vO vS vN vI (.slice Av bs.length cv) bs (bs++m43.take 0) #[.int .i64 fn,.int .i64 rg,.slice Ab bs.length cb]):=⟨by rw [List.take_zero,List.append_nil];exact HH.out⟩
   clear HH
   go_loopw [6] (fun v6 wi=>∃ (j:Nat) (vB:Value),j≤16∧v6= .int .i64 j∧Aside0 (CS w wi gh g1 vO vS vN vI vB bs (bs++m43.take j) #[.int .i64 fn,.int .i64 rg,.slice Ab bs.length cb])) (fun v6 _=>16-(intOf v6).toNat)
   case atStart=>exact ⟨0,_,by omega,rfl,H0⟩
   case round =>
    clear H0;obtain ⟨j,vB,hj,rfl,HH⟩:=hrel;have hml:m43.length=16:=rfl;have hyl:(bs++m43.take j).length=bs.length+j:=by rw [List.length_append,List.length_take];omega
    obtain ⟨Ay,cy,hvy⟩:=Kd.S_slice HH.out.hd.B;subst hvy
    by_cases hlt:j<16
    ·have HM:=ak (m43_take j hlt);have HLY:Aside0 (((bs++m43.take j).length+1)*56≤140737488355328):=⟨by have:=HFT.out.blocks;omega⟩
     generalize hz:bs++m43.take j=ys at HH HLY ⊢;have HY:=ak hz;have HJ:=ak hlt;have hj16:(j:Int)<16:=by omega
     have h7:wr.cell? ⟨gh,7,none⟩=some (.slice Ay ys.length cy):=(blk_cell HH.out.hd.blk 7).trans rfl;clear hz hml hyl hlt hj
     go_wp2_with (first
      |((with_reducible refine gate_dst (N:=46) rfl ?_);at_builtin;refine Kd.S_append k43 (w0:=w) w.heap.size rfl (.tmp 41) (.tmp 45) 22 43 (.agg #[(.int .i64 0),(.slice none 0 0),(.slice none 0 0)]) 56 rfl Try.underlying22 info43 rfl (by decide) (by omega) (.slice Ay ys.length cy) ys ⟨-7-(j:Int),[],[]⟩ [.int .i64 (-7-(j:Int)),.slice none 0 0,.slice none 0 0] (fun _=>True) (fun _=>False) rfl rfl (k43_mkM _ _ _ (⟨-7-(j:Int),[],[]⟩:S43) (Kd.R_nil _ _ _ _ _) (Kd.R_nil _ _ _ _ _)) (fun _ hk=>hk.elim) (fun _ _=>trivial) (Kd.S_mono HH.out.hd.B (fun _ _=>⟨trivial,fun h2=>h2⟩)) HH.out.hd.below HH.out.hd.below.size HLY.out ?_;intro v9 w9 ho9 hb9 hg9 hat9;obtain ⟨A9,c9,hv9⟩:=Kd.S_slice ho9;rw [List.length_append,List.length_singleton] at hv9;subst hv9;have HP:=ak (HH.out.push ho9 hb9 hg9);have H34:=blk_grown HH.out.hd.blk hg9 (Kd.S_ne HH.out.hd.B HH.out.hd.blk (by decide));have t7:w9.cell? ⟨gh,7,none⟩=some (.slice Ay ys.length cy):=(qk H34 7);have y7:=blk_frozen H34 7;clear ho9 hb9 hg9 hat9 h7 H34))
     clear t7 y7
     go_roundw
     case rel =>
      have h:=HP.out;have e:bs++m43.take (j+1)=ys++[⟨-7-(j:Int),[],[]⟩]:=by rw [HM.out,←List.append_assoc,HY.out]
      rw [←e] at h;exact ⟨j+1,_,by have:=HJ.out;omega,by go_num,⟨h⟩⟩
     case measure=>simp [intOf];omega
    ·obtain rfl:j=16:=by omega
     have hm:m43.take 16=m43:=rfl;rw [hm] at HH hyl;obtain ⟨yq,hyq⟩:∃ yq,yq=bs++m43:=⟨_,rfl⟩
     rw [←hyq] at HH hyl;have HYQ:=ak hyq;have HYL:=ak hyl;have h7:wr.cell? ⟨gh,7,none⟩=some (.slice Ay yq.length cy):=(blk_cell HH.out.hd.blk 7).trans rfl;have u0:wr.cell? ⟨g1,0,none⟩=some (.int .i64 fn):=(blk_cell HH.out.b1 0).trans rfl;have u1:wr.cell? ⟨g1,1,none⟩=some (.int .i64 rg):=(blk_cell HH.out.b1 1).trans rfl;have u2:wr.cell? ⟨g1,2,none⟩=some (.slice Ab bs.length cb):=(blk_cell HH.out.b1 2).trans rfl;have hcut:=cut_row 22 43 Try.underlying22 info43 Ay yq.length cy bs.length (by omega) (Kd.S_reads' HH.out.hd.B).2.1;clear hyq hm hyl hml hlt hj
     go_wp2_with fail
     go_still_tail 16,(by kernel_rfl)
     change wpList _ _ _ _ _ wr.drew
     have HCd:=ak (HH.out.next (below_drew1 (Below.refl _ wr)));clear h7 u0 u1 u2 hcut HH;generalize wr.drew=w16 at HCd ⊢;have z0:w16.cell? ⟨gh,0,none⟩=some (.int .i64 0):=(blk_cell HCd.out.hd.blk 0).trans rfl;have z1:w16.cell? ⟨gh,1,none⟩=some (.int .i64 0):=(blk_cell HCd.out.hd.blk 1).trans rfl;have z2:w16.cell? ⟨gh,2,none⟩=some (.slice none 0 0):=(blk_cell HCd.out.hd.blk 2).trans rfl;have y0:=blk_frozen HCd.out.hd.blk 0;have y1:=blk_frozen HCd.out.hd.blk 1;have y2:=blk_frozen HCd.out.hd.blk 2
     go_wp2_with fail
     go_ret
     have hd:=HCd.out.hd;refine ⟨_,Ay,cy,vO,vS,vN,vI,rfl,⟨below_set (below_set (below_set hd.below hd.low) hd.low) hd.low,?_,row_set3 hd.O hd.blk (by decide) _ _ _,row_set3 (Kd.R_mono hd.S (fun _ _=>trivial)) hd.blk (by decide) _ _ _,row_set3 (Kd.R_mono hd.N (fun _ _=>trivial)) hd.blk (by decide) _ _ _,row_set3 (Kd.R_mono hd.I (fun _ _=>trivial)) hd.blk (by decide) _ _ _,?_,hd.low,rfl⟩⟩
     ·rw [←HYL.out];exact blk_put (blk_put (blk_put hd.blk 0 _ rfl) 1 _ rfl) 2 _ rfl
     ·rw [←HYL.out,←HYQ.out];exact row_set3S (Kd.S_mono hd.B (fun _ _=>trivial)) hd.blk (by decide) _ _ _
end Go.Proofs.Ytklknkfoafdgpaa.LiveHandC
