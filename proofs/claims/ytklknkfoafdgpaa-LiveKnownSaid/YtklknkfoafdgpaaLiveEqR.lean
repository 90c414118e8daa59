import Derived.Test.YtklknkfoafdgpaaLiveEqS60
import Derived.Test.YtklknkfoafdgpaaLiveKn
import Derived.Test.YtklknkfoafdgpaaLiveFit
namespace Go.Proofs.Ytklknkfoafdgpaa.LiveEqI
set_option maxHeartbeats 8000000
set_option maxRecDepth 100000
open RowKit YtklknkfoafdgpaaW.PrintWords YtklknkfoafdgpaaW.PrintLast YtklknkfoafdgpaaW.PrintMore
open PLiveKnown LiveT LiveB LiveSet LiveAhead LiveEqO LiveEqS60
set_option linter.unusedVariables false
set_option linter.unusedSimpArgs false
theorem ins37_calls (x:S47) (A3 B3 A7 B7:Option Addr) (c3 d3 c7 d7:Nat) (w:World) (h:RIn w x A3 c3 A7 c7) (h1:RIn w x B3 d3 B7 d7) :
  Calls Try.prog 37 #[v47 x A3 c3 A7 c7,v47 x B3 d3 B7 d7] w fun e w'=>e= .returned (.bool true)∧Below w.heap.size w w':=by
 have H0:=ak h;have H1:=ak h1;clear h h1;simp only [v47,cells47]
 go_enter Try.func37,Try.ntmps37
 go_wp2_with (first
  |((with_reducible refine gate_dst (N:=2) rfl ?_);refine box47_event rfl rfl rfl rfl ?_;intro ga w1 hga hA1 hb1;have HA1:=ak hA1;have HB1:=ak hb1;clear hga hA1 hb1)
  |((with_reducible refine gate_dst (N:=3) rfl ?_);refine box47_event rfl rfl rfl rfl ?_;intro gb w2 hgb hA2 hb2;have HB2:=ak (below_step HB1.out hb2);have hA1b:=at47_below HA1.out hb2;obtain ⟨u0,u1,u2,u3,u4,u5,u6,u7⟩:=cells47_of hA1b;obtain ⟨v0,v1,v2,v3,v4,v5,v6,v7⟩:=cells47_of hA2;clear hgb hA2 hb2 hA1b)
  |(go_at_call 59;refine (opnds59_calls x.f3 A3 B3 c3 d3 _ (Kd.C_below H0.out.r3 HB2.out) H0.out.l3 (Kd.C_below H1.out.r3 HB2.out) H1.out.l3).mono ?_;rintro e w3 ⟨rfl,hb3⟩;have HB3:=ak (below_step HB2.out hb3);replace u7:=pw_cell_below hb3 u7;replace v7:=pw_cell_below hb3 v7;clear hb3 u0 u1 u2 u3 u4 u5 u6 v0 v1 v2 v3 v4 v5 v6)
  |(go_at_call 60;refine (shapes60_calls x.f7 A7 B7 c7 d7 _ (Kd.C_below H0.out.r7 HB3.out) (Kd.C_below H1.out.r7 HB3.out)).mono ?_;rintro e w4 ⟨rfl,hb4⟩;have HB4:=ak (below_step HB3.out hb4);clear hb4 u7 v7))
 all_goals (
  go_ret
  exact ⟨rfl,HB4.out⟩)
end Go.Proofs.Ytklknkfoafdgpaa.LiveEqI
namespace Go.Proofs.Ytklknkfoafdgpaa.LiveEvt
open RowKit YtklknkfoafdgpaaW.PrintWords YtklknkfoafdgpaaW.PrintLast YtklknkfoafdgpaaW.PrintMore
open PLiveKnown LiveRunP
set_option linter.unusedVariables false
set_option linter.unusedSimpArgs false
theorem zero_event {ops:Array Oper} {rest:List Oper} {o:Oper} {a:Act} {Q:Exit→Act→World→Prop} {W:World} (t:Nat) (cs:Array Value) (hgd:o.guard=none) {N:Tmp} (_hd:o.dst=some N) (hrun:(execOp a.eval o).run Try.prog W= .ok (.value (.pointer (some ⟨W.heap.size,0,none⟩))) (W.alloc (.cells cs t (0,0))))
  (h:∀ g w1,W.heap.size≤g→w1.heap[g]? =some (.cells cs t (0,0))→Below W.heap.size W w1→wpList Try.prog ops Q rest (a.put o.dst (.pointer (some ⟨g,0,none⟩))) w1):wpList Try.prog ops Q (o::rest) a W:=
 box_event hgd (N:=N) _hd hrun (fun g hg w1 h1 h2=>h g w1 (Nat.le_of_eq hg.symm) h1 h2)
theorem made_event {ops:Array Oper} {rest:List Oper} {o:Oper} {a:Act} {Q:Exit→Act→World→Prop} {W:World} (n:Nat) (hgd:o.guard=none) {N:Tmp} (_hd:o.dst=some N) (hrun:(execOp a.eval o).run Try.prog W= .ok (.value (.slice (some ⟨W.heap.size,0,none⟩) n n)) (W.alloc (.cells (madeB n) 4)))
  (h:∀ g w1,W.heap.size≤g→KS w1 g n (fun _=>false)→Below W.heap.size W w1→wpList Try.prog ops Q rest (a.put o.dst (.slice (some ⟨g,0,none⟩) n n)) w1):wpList Try.prog ops Q (o::rest) a W:=
 Kd.event_run hgd hrun (h _ _ (Nat.le_refl _) (ks_made _ _ _ (blk_new W _)) (below_alloc (Below.refl _ _) _))
end Go.Proofs.Ytklknkfoafdgpaa.LiveEvt
namespace Go.Proofs.Ytklknkfoafdgpaa.LiveEqR
set_option maxHeartbeats 8000000
set_option maxRecDepth 100000
open RowKit YtklknkfoafdgpaaW.PrintWords YtklknkfoafdgpaaW.PrintLast YtklknkfoafdgpaaW.PrintMore
open PLiveKnown LiveT LiveB LiveSet LiveAhead LiveEnd LiveSettled LiveFit LiveEqI
set_option linter.unusedVariables false
set_option linter.unusedSimpArgs false
def r17_13_T:Bool×List (List Nat×List Nat):=(true,[([],[]),([0],[0]),([],[]),([1,2],[1,2]),([3],[3]),([],[]),([5],[5]),([],[]),([6,7],[6,7]),([8],[8]),([4,9],[4,9]),([10],[10])])
def r17_13_B:List Nat:=[0,1,0,7,15,0,32,0,224,480,1023,2047]
theorem r17_13_tab:rtab .any (opsOf Try.f17 13)=r17_13_T:=by kernel_rfl
theorem r17_13_bits:waitsOk r17_13_T.2 r17_13_B=true:=by kernel_rfl
theorem regs17_calls (fn rg:Int) (bs:List S43) (A B:Option Addr) (c d:Nat) (w:World) (h:Kd.C k43 w A bs.length bs) (h1:Kd.C k43 w B bs.length bs) :
  Calls Try.prog 17 #[.agg #[.int .i64 fn,.int .i64 rg,.slice A bs.length c],.agg #[.int .i64 fn,.int .i64 rg,.slice B bs.length d]] w fun e w'=>e= .returned (.bool true)∧Below w.heap.size w w':=by
 have H0:=ak h;have H1:=ak h1;have hlm:bs.length≤9223372036854775807:=Kd.C_max h;clear h h1
 go_enter Try.func17,Try.ntmps17
 go_wp2_with (first
  |((with_reducible refine gate_dst (N:=2) rfl ?_);refine LiveEvt.zero_event 24 #[.int .i64 fn,.int .i64 rg,.slice A bs.length c] rfl rfl qb ?_;intro g2 w1 hg2 hA2 hb1;have HP2:=ak hA2;have HB1:=ak hb1;clear hg2 hA2 hb1)
  |((with_reducible refine gate_dst (N:=3) rfl ?_);refine LiveEvt.zero_event 24 #[.int .i64 fn,.int .i64 rg,.slice B bs.length d] rfl rfl qb ?_;intro g3 w2 hg3 hA3 hb2;have HP3:=ak hA3;replace HP2:=ak ((hb2.block g2 (blk_lt HP2.out)).trans HP2.out);have HB2:=ak (below_step HB1.out hb2);have u0:w2.cell? ⟨g2,0,none⟩=some (.int .i64 fn):=(qj HP2 0);have u1:w2.cell? ⟨g2,1,none⟩=some (.int .i64 rg):=(qj HP2 1);have u2:w2.cell? ⟨g2,2,none⟩=some (.slice A bs.length c):=(qj HP2 2);have v0:w2.cell? ⟨g3,0,none⟩=some (.int .i64 fn):=(qj HP3 0);have v1:w2.cell? ⟨g3,1,none⟩=some (.int .i64 rg):=(qj HP3 1);have v2:w2.cell? ⟨g3,2,none⟩=some (.slice B bs.length d):=(qj HP3 2);clear hg3 hA3 hb2))
 clear u0 u1 u2 v0 v1 v2
 go_loopw [5] (fun v5 wi=>∃ i:Nat,i≤bs.length∧v5= .int .i64 i∧Aside0 (Below w2.heap.size w2 wi)) (fun v5 _=>bs.length-(intOf v5).toNat)
 case atStart=>exact ⟨0,by omega,rfl,⟨Below.refl _ w2⟩⟩
 case round =>
  obtain ⟨i,hi,rfl,HB⟩:=hrel;have u2:wr.cell? ⟨g2,2,none⟩=some (.slice A bs.length c):=pw_cell_below HB.out (qj HP2 2)
  by_cases hlt:i<bs.length
  ·have v2:wr.cell? ⟨g3,2,none⟩=some (.slice B bs.length d):=pw_cell_below HB.out (qj HP3 2);obtain ⟨ad,A1,c1,A2,c2,e1,p0,p1,p2,l1,hg1,l2,hg2⟩:=rd_block H0.out (below_step HB2.out HB.out) i hlt;obtain ⟨ae,B1,d1,B2,d2,e2,q0,q1,q2,k1,hk1,k2,hk2⟩:=rd_block H1.out (below_step HB2.out HB.out) i hlt;subst e1 e2;generalize rd_T43 bs i=X at *;have hli:(i:Int)<bs.length:=by omega
   have hxm:X.f1.length≤9223372036854775807:=Kd.C_max hg1;have HLT:=ak hlt;have K1:=ak hg1;have K2:=ak hg2;have K3:=ak hk1;have K4:=ak hk2;have K5:=ak l2;have K6:=ak k2;clear hg1 hg2 hk1 hk2 l1 l2 k1 k2 hlt hi
   go_upto_region 7 with ((with_reducible refine gate_dst (N:=6) rfl ?_);refine LiveEvt.zero_event 43 #[.int .i64 0,.slice none 0 0,.slice none 0 0] rfl rfl qb ?_;intro g6 w5 hg6 hAg6 hbg6;have HGg6:=ak hg6;have HAg6:=ak hAg6;have HBg6:=ak hbg6;have z0:w5.cell? ⟨g6,0,none⟩=some (.int .i64 0):=(qk hAg6 0);have y0:=blk_frozen hAg6 0;have z1:w5.cell? ⟨g6,1,none⟩=some (.slice none 0 0):=(qk hAg6 1);have y1:=blk_frozen hAg6 1;have z2:w5.cell? ⟨g6,2,none⟩=some (.slice none 0 0):=(qk hAg6 2);have y2:=blk_frozen hAg6 2;clear hg6 hAg6 hbg6)
   have HXg6:Aside0 (Below wr.heap.size wr (((w5.setCell ⟨g6,0,none⟩ (.int .i64 X.f0)).setCell ⟨g6,1,none⟩ (.slice A1 X.f1.length c1)).setCell ⟨g6,2,none⟩ (.slice A2 X.f2.length c2))):=⟨below_set (below_set (below_set HBg6.out HGg6.out) HGg6.out) HGg6.out⟩
   have HPg6:Aside0 ((((w5.setCell ⟨g6,0,none⟩ (.int .i64 X.f0)).setCell ⟨g6,1,none⟩ (.slice A1 X.f1.length c1)).setCell ⟨g6,2,none⟩ (.slice A2 X.f2.length c2)).heap[g6]? =some (.cells #[.int .i64 X.f0,.slice A1 X.f1.length c1,.slice A2 X.f2.length c2] 43 (0,0))):=⟨blk_put (blk_put (blk_put HAg6.out 0 _ rfl) 1 _ rfl) 2 _ rfl⟩
   generalize (((w5.setCell ⟨g6,0,none⟩ (.int .i64 X.f0)).setCell ⟨g6,1,none⟩ (.slice A1 X.f1.length c1)).setCell ⟨g6,2,none⟩ (.slice A2 X.f2.length c2))=w6 at HXg6 HPg6 ⊢;clear z0 z1 z2 y0 y1 y2 HAg6 HBg6 HGg6;replace v2:=pw_cell_below HXg6.out v2;replace q0:=pw_cell_below HXg6.out q0;replace q1:=pw_cell_below HXg6.out q1;replace q2:=pw_cell_below HXg6.out q2;clear u2 p0 p1 p2
   go_upto_region 8 with ((with_reducible refine gate_dst (N:=7) rfl ?_);refine LiveEvt.zero_event 43 #[.int .i64 0,.slice none 0 0,.slice none 0 0] rfl rfl qb ?_;intro g7 w7 hg7 hAg7 hbg7;have HGg7:=ak hg7;have HAg7:=ak hAg7;have HBg7:=ak hbg7;have z0:w7.cell? ⟨g7,0,none⟩=some (.int .i64 0):=(qk hAg7 0);have y0:=blk_frozen hAg7 0;have z1:w7.cell? ⟨g7,1,none⟩=some (.slice none 0 0):=(qk hAg7 1);have y1:=blk_frozen hAg7 1;have z2:w7.cell? ⟨g7,2,none⟩=some (.slice none 0 0):=(qk hAg7 2);have y2:=blk_frozen hAg7 2;clear hg7 hAg7 hbg7)
   have HXg7:Aside0 (Below w6.heap.size w6 (((w7.setCell ⟨g7,0,none⟩ (.int .i64 X.f0)).setCell ⟨g7,1,none⟩ (.slice B1 X.f1.length d1)).setCell ⟨g7,2,none⟩ (.slice B2 X.f2.length d2))):=⟨below_set (below_set (below_set HBg7.out HGg7.out) HGg7.out) HGg7.out⟩
   have HPg7:Aside0 ((((w7.setCell ⟨g7,0,none⟩ (.int .i64 X.f0)).setCell ⟨g7,1,none⟩ (.slice B1 X.f1.length d1)).setCell ⟨g7,2,none⟩ (.slice B2 X.f2.length d2)).heap[g7]? =some (.cells #[.int .i64 X.f0,.slice B1 X.f1.length d1,.slice B2 X.f2.length d2] 43 (0,0))):=⟨blk_put (blk_put (blk_put HAg7.out 0 _ rfl) 1 _ rfl) 2 _ rfl⟩
   generalize (((w7.setCell ⟨g7,0,none⟩ (.int .i64 X.f0)).setCell ⟨g7,1,none⟩ (.slice B1 X.f1.length d1)).setCell ⟨g7,2,none⟩ (.slice B2 X.f2.length d2))=w8 at HXg7 HPg7 ⊢;clear z0 z1 z2 y0 y1 y2 HAg7 HBg7 HGg7;clear v2 q0 q1 q2;have HB8:=ak (below_step HB.out (below_step HXg6.out HXg7.out));have H6:=ak ((HXg7.out.block g6 (blk_lt HPg6.out)).trans HPg6.out);have u0:w8.cell? ⟨g6,0,none⟩=some (.int .i64 X.f0):=qj H6 0;have u1:w8.cell? ⟨g6,1,none⟩=some (.slice A1 X.f1.length c1):=qj H6 1;have u2:w8.cell? ⟨g6,2,none⟩=some (.slice A2 X.f2.length c2):=qj H6 2
   have v0:w8.cell? ⟨g7,0,none⟩=some (.int .i64 X.f0):=qj HPg7 0;have v1:w8.cell? ⟨g7,1,none⟩=some (.slice B1 X.f1.length d1):=qj HPg7 1;have v2:w8.cell? ⟨g7,2,none⟩=some (.slice B2 X.f2.length d2):=qj HPg7 2
   go_wp2_with (first
    |(go_at_call 12;refine (ints_calls X.f2 A2 B2 c2 d2 _ (Kd.C_below K2.out (below_step HB2.out HB8.out)) K5.out (Kd.C_below K4.out (below_step HB2.out HB8.out)) K6.out).mono ?_;rintro e w9 ⟨rfl,hb9⟩;have HB9:=ak hb9;replace u1:=pw_cell_below hb9 u1;replace v1:=pw_cell_below hb9 v1;clear hb9 u0 u2 v0 v2))
   clear u1 v1
   go_loopw [8] (fun v8 wi=>∃ k:Nat,k≤X.f1.length∧v8= .int .i64 k∧Aside0 (Below w8.heap.size w8 wi)) (fun v8 _=>X.f1.length-(intOf v8).toNat)
   case atStart=>exact ⟨0,by omega,rfl,HB9⟩
   case round =>
    clear HB9;obtain ⟨k,hk,rfl,HBk⟩:=hrel;have H6w:=ak ((HBk.out.block g6 (blk_lt H6.out)).trans H6.out);have H7w:=ak ((HBk.out.block g7 (blk_lt HPg7.out)).trans HPg7.out);have u1:wr.cell? ⟨g6,1,none⟩=some (.slice A1 X.f1.length c1):=qj H6w 1
    by_cases hkt:k<X.f1.length
    ·obtain ⟨a,A3,e3,A7,e7,ea,hin,hrin⟩:=rd_ins K1.out k hkt;obtain ⟨b,B3,f3,B7,f7,eb,him,hrim⟩:=rd_ins K3.out k hkt;subst ea eb;generalize rd_T47 X.f1 k=x at *;have hki:(k:Int)<X.f1.length:=by omega
     have HKT:=ak hkt;have HBT:=ak (below_step HB2.out (below_step HB8.out HBk.out));have HI0:=ak (hin.below HBT.out);have HI1:=ak (him.below HBT.out);have HR0:=ak hrin;have HR1:=ak hrim;have HBD:=ak (below_drew1 HBk.out);have HTD:=ak (below_drew1 HBT.out);have Z0:Aside0 (wr.drew.cell? ⟨g6,1,none⟩=some (.slice (some a) X.f1.length c1)):=⟨qj H6w 1⟩
     have Z1:Aside0 (wr.drew.cell? ⟨g7,1,none⟩=some (.slice (some b) X.f1.length d1)):=⟨qj H7w 1⟩
     have Z2:Aside0 (wr.drew.cell? (a.add (k*8))=some (.int .i64 x.f0)):=⟨HI0.out.c0⟩
     have Z3:Aside0 (wr.drew.cell? ⟨(a.add (k*8)).block,(a.add (k*8)).off+1,none⟩=some (.int .i64 x.f1)):=⟨HI0.out.c1⟩
     have Z4:Aside0 (wr.drew.cell? ⟨(a.add (k*8)).block,(a.add (k*8)).off+2,none⟩=some (.int .i64 x.f2)):=⟨HI0.out.c2⟩
     have Z5:Aside0 (wr.drew.cell? ⟨(a.add (k*8)).block,(a.add (k*8)).off+3,none⟩=some (.slice A3 x.f3.length e3)):=⟨HI0.out.c3⟩
     have Z6:Aside0 (wr.drew.cell? ⟨(a.add (k*8)).block,(a.add (k*8)).off+4,none⟩=some (.int .i64 x.f4)):=⟨HI0.out.c4⟩
     have Z7:Aside0 (wr.drew.cell? ⟨(a.add (k*8)).block,(a.add (k*8)).off+5,none⟩=some (.int .i64 x.f5)):=⟨HI0.out.c5⟩
     have Z8:Aside0 (wr.drew.cell? ⟨(a.add (k*8)).block,(a.add (k*8)).off+6,none⟩=some (.int .i64 x.f6)):=⟨HI0.out.c6⟩
     have Z9:Aside0 (wr.drew.cell? ⟨(a.add (k*8)).block,(a.add (k*8)).off+7,none⟩=some (.slice A7 x.f7.length e7)):=⟨HI0.out.c7⟩
     have Z10:Aside0 (wr.drew.cell? (b.add (k*8))=some (.int .i64 x.f0)):=⟨HI1.out.c0⟩
     have Z11:Aside0 (wr.drew.cell? ⟨(b.add (k*8)).block,(b.add (k*8)).off+1,none⟩=some (.int .i64 x.f1)):=⟨HI1.out.c1⟩
     have Z12:Aside0 (wr.drew.cell? ⟨(b.add (k*8)).block,(b.add (k*8)).off+2,none⟩=some (.int .i64 x.f2)):=⟨HI1.out.c2⟩
     have Z13:Aside0 (wr.drew.cell? ⟨(b.add (k*8)).block,(b.add (k*8)).off+3,none⟩=some (.slice B3 x.f3.length f3)):=⟨HI1.out.c3⟩
     have Z14:Aside0 (wr.drew.cell? ⟨(b.add (k*8)).block,(b.add (k*8)).off+4,none⟩=some (.int .i64 x.f4)):=⟨HI1.out.c4⟩
     have Z15:Aside0 (wr.drew.cell? ⟨(b.add (k*8)).block,(b.add (k*8)).off+5,none⟩=some (.int .i64 x.f5)):=⟨HI1.out.c5⟩
     have Z16:Aside0 (wr.drew.cell? ⟨(b.add (k*8)).block,(b.add (k*8)).off+6,none⟩=some (.int .i64 x.f6)):=⟨HI1.out.c6⟩
     have Z17:Aside0 (wr.drew.cell? ⟨(b.add (k*8)).block,(b.add (k*8)).off+7,none⟩=some (.slice B7 x.f7.length f7)):=⟨HI1.out.c7⟩
     clear hin him hrin hrim hkt hk
     go_wp2_with fail
     clear u1
     refine start_ (n:=12) (S:=fun w'=>w'.cell? ⟨g6,1,none⟩=some (.slice (some a) X.f1.length c1)∧w'.cell? ⟨g7,1,none⟩=some (.slice (some b) X.f1.length d1)∧w'.cell? (a.add (k*8))=some (.int .i64 x.f0)∧w'.cell? ⟨(a.add (k*8)).block,(a.add (k*8)).off+1,none⟩=some (.int .i64 x.f1)∧w'.cell? ⟨(a.add (k*8)).block,(a.add (k*8)).off+2,none⟩=some (.int .i64 x.f2)∧w'.cell? ⟨(a.add (k*8)).block,(a.add (k*8)).off+3,none⟩=some (.slice A3 x.f3.length e3)∧w'.cell? ⟨(a.add (k*8)).block,(a.add (k*8)).off+4,none⟩=some (.int .i64 x.f4)∧w'.cell? ⟨(a.add (k*8)).block,(a.add (k*8)).off+5,none⟩=some (.int .i64 x.f5)∧w'.cell? ⟨(a.add (k*8)).block,(a.add (k*8)).off+6,none⟩=some (.int .i64 x.f6)∧w'.cell? ⟨(a.add (k*8)).block,(a.add (k*8)).off+7,none⟩=some (.slice A7 x.f7.length e7)∧w'.cell? (b.add (k*8))=some (.int .i64 x.f0)∧w'.cell? ⟨(b.add (k*8)).block,(b.add (k*8)).off+1,none⟩=some (.int .i64 x.f1)∧w'.cell? ⟨(b.add (k*8)).block,(b.add (k*8)).off+2,none⟩=some (.int .i64 x.f2)∧w'.cell? ⟨(b.add (k*8)).block,(b.add (k*8)).off+3,none⟩=some (.slice B3 x.f3.length f3)∧w'.cell? ⟨(b.add (k*8)).block,(b.add (k*8)).off+4,none⟩=some (.int .i64 x.f4)∧w'.cell? ⟨(b.add (k*8)).block,(b.add (k*8)).off+5,none⟩=some (.int .i64 x.f5)∧w'.cell? ⟨(b.add (k*8)).block,(b.add (k*8)).off+6,none⟩=some (.int .i64 x.f6)∧w'.cell? ⟨(b.add (k*8)).block,(b.add (k*8)).off+7,none⟩=some (.slice B7 x.f7.length f7)) (ds:=[]) (bz 12 0) (by kernel_rfl) rfl rfl ⟨Z0.out,Z1.out,Z2.out,Z3.out,Z4.out,Z5.out,Z6.out,Z7.out,Z8.out,Z9.out,Z10.out,Z11.out,Z12.out,Z13.out,Z14.out,Z15.out,Z16.out,Z17.out⟩ (fun hHeld=>?_)
     refine with_tabW r17_13_tab r17_13_bits (fun HT_ HW_=>?_);generalize World.drew wr=W2 at HBD HTD Z0 Z1 Z2 Z3 Z4 Z5 Z6 Z7 Z8 Z9 Z10 Z11 Z12 Z13 Z14 Z15 Z16 Z17 hHeld ⊢;refine pu 0 76 12 1 ?_;refine tk 1 77 12 2 ?_;refine pu 2 78 12 3 ?_;refine pu 3 79 12 4 ?_;refine tk 4 80 12 5 ?_;refine pu 5 81 12 6 ?_;refine tk 6 82 12 7 ?_;refine pu 7 83 12 8 ?_;refine pu 8 84 12 9 ?_;refine tk 9 85 12 10 ?_;refine one_ (i:=10) (N:=some 86) (bz 12 11) rfl rfl (one_of HT_.out (by kernel_rfl)) (by decide) (fun K hK=>?_)
     refine goes_ Try.func37 (by kernel_rfl) rfl #[v47 x A3 e3 A7 e7,v47 x B3 f3 B7 f7] (by rfl) rfl rfl (by (try simp only [List.map_toArray,List.map_cons,List.map_nil]);first |done |rfl) ?_;refine (ins37_calls x A3 B3 A7 B7 e3 f3 e7 f7 W2 (HR0.out.below HTD.out) (HR1.out.below HTD.out)).mono ?_;rintro e w6 ⟨rfl,hb6⟩;refine ⟨_,rfl,?_⟩;have HB6:=ak (below_step HBD.out hb6)
     refine hK.out _ _ ⟨pw_cell_below hb6 Z0.out,pw_cell_below hb6 Z1.out,pw_cell_below hb6 Z2.out,pw_cell_below hb6 Z3.out,pw_cell_below hb6 Z4.out,pw_cell_below hb6 Z5.out,pw_cell_below hb6 Z6.out,pw_cell_below hb6 Z7.out,pw_cell_below hb6 Z8.out,pw_cell_below hb6 Z9.out,pw_cell_below hb6 Z10.out,pw_cell_below hb6 Z11.out,pw_cell_below hb6 Z12.out,pw_cell_below hb6 Z13.out,pw_cell_below hb6 Z14.out,pw_cell_below hb6 Z15.out,pw_cell_below hb6 Z16.out,pw_cell_below hb6 Z17.out⟩ (fun hHeld=>?_);clear hK K;refine norm_ (a':=?_) ?_ ?_;rotate_left
     ·show Act.put _ (some 86) _=_
      simp only [Act.put,sA,sB,sC,i64_w,i32_w];rfl
     clear hb6;refine pu 11 87 12 12 ?_;refine done_ (done_of HT_.out (by kernel_rfl)) ?_
     go_wp2_with fail
     go_roundw
     case rel=>exact ⟨k+1,by have:=HKT.out;omega,by go_num,HB6⟩
     case measure=>have:=HKT.out;simp [intOf];omega
    ·obtain rfl:k=X.f1.length:=by omega
     go_wp2_with fail
     go_roundw
     case rel=>exact ⟨i+1,by have:=HLT.out;omega,by go_num,⟨below_step HB8.out HBk.out⟩⟩
     case measure=>have:=HLT.out;simp [intOf];omega
  ·obtain rfl:i=bs.length:=by omega
   go_wp2_with fail
   go_ret
   exact ⟨rfl,below_step HB2.out HB.out⟩
end Go.Proofs.Ytklknkfoafdgpaa.LiveEqR
