import Derived.Test.YtklknkfoafdgpaaLiveEqS67
import Derived.Test.YtklknkfoafdgpaaLiveRunW
namespace Go.Proofs.Ytklknkfoafdgpaa.LiveEqK
set_option maxHeartbeats 8000000
set_option maxRecDepth 100000
open RowKit YtklknkfoafdgpaaW.PrintWords YtklknkfoafdgpaaW.PrintLast YtklknkfoafdgpaaW.PrintMore
open PLiveKnown LiveT LiveB LiveSet LiveAhead LiveCopied LiveSettled LiveEqO LiveEqS67
set_option linter.unusedVariables false
set_option linter.unusedSimpArgs false
theorem ins55_calls (l:List S47) (A B:Option Addr) (c d:Nat) (w:World) (h:Kd.C k47 w A l.length l) (h1:Kd.C k47 w B l.length l) :
  Calls Try.prog 55 #[.slice A l.length c,.slice B l.length d] w fun e w'=>e= .returned (.bool true)∧Below w.heap.size w w':=by
 have H0:=ak h;have H1:=ak h1;have hlm:l.length≤9223372036854775807:=Kd.C_max h;clear h h1
 go_enter Try.func55,Try.ntmps55
 go_wp2_with fail
 go_loopw [5] (fun v5 wi=>∃ i:Nat,i≤l.length∧v5= .int .i64 i∧Aside0 (Below w.heap.size w wi)) (fun v5 _=>l.length-(intOf v5).toNat)
 case atStart=>exact ⟨0,by omega,rfl,⟨Below.refl _ w⟩⟩
 case round =>
  obtain ⟨i,hi,rfl,HB⟩:=hrel
  by_cases hlt:i<l.length
  ·obtain ⟨a,A3,e3,A7,e7,ea,hin,hrin⟩:=rd_ins H0.out i hlt;obtain ⟨b,B3,f3,B7,f7,eb,him,hrim⟩:=rd_ins H1.out i hlt;subst ea eb;generalize rd_T47 l i=x at *;have hli:(i:Int)<l.length:=by omega
   have HLT:=ak hlt;have HR0:=ak hrin;have HR1:=ak hrim;obtain ⟨p0,p1,p2,p3,p4,p5,p6,p7⟩:=hin.below HB.out;obtain ⟨q0,q1,q2,q3,q4,q5,q6,q7⟩:=him.below HB.out;clear hin him hrin hrim hlt hi
   go_upto_region 7 with ((with_reducible refine gate_dst (N:=6) rfl ?_);refine box47_zero_event rfl rfl rfl ?_;intro g6 w5 hg6 hAg6 hbg6;have HGg6:=ak hg6;have HAg6:=ak hAg6;have HBg6:=ak hbg6;have z0:w5.cell? ⟨g6,0,none⟩=some (.int .i64 0):=(qk hAg6 0);have y0:=blk_frozen hAg6 0;have z1:w5.cell? ⟨g6,1,none⟩=some (.int .i64 0):=(qk hAg6 1);have y1:=blk_frozen hAg6 1;have z2:w5.cell? ⟨g6,2,none⟩=some (.int .i64 0):=(qk hAg6 2);have y2:=blk_frozen hAg6 2;have z3:w5.cell? ⟨g6,3,none⟩=some (.slice none 0 0):=(qk hAg6 3);have y3:=blk_frozen hAg6 3;have z4:w5.cell? ⟨g6,4,none⟩=some (.int .i64 0):=(qk hAg6 4);have y4:=blk_frozen hAg6 4;have z5:w5.cell? ⟨g6,5,none⟩=some (.int .i64 0):=(qk hAg6 5);have y5:=blk_frozen hAg6 5;have z6:w5.cell? ⟨g6,6,none⟩=some (.int .i64 0):=(qk hAg6 6);have y6:=blk_frozen hAg6 6;have z7:w5.cell? ⟨g6,7,none⟩=some (.slice none 0 0):=(qk hAg6 7);have y7:=blk_frozen hAg6 7;clear hg6 hAg6 hbg6)
   have HXg6:Aside0 (Below wr.heap.size wr ((((((((w5.setCell ⟨g6,0,none⟩ (.int .i64 x.f0)).setCell ⟨g6,1,none⟩ (.int .i64 x.f1)).setCell ⟨g6,2,none⟩ (.int .i64 x.f2)).setCell ⟨g6,3,none⟩ (.slice A3 x.f3.length e3)).setCell ⟨g6,4,none⟩ (.int .i64 x.f4)).setCell ⟨g6,5,none⟩ (.int .i64 x.f5)).setCell ⟨g6,6,none⟩ (.int .i64 x.f6)).setCell ⟨g6,7,none⟩ (.slice A7 x.f7.length e7))):=⟨LiveRunW.put47_below HBg6.out HGg6.out _ _ _ _ _ _ _ _⟩
   have HPg6:Aside0 (At47 ((((((((w5.setCell ⟨g6,0,none⟩ (.int .i64 x.f0)).setCell ⟨g6,1,none⟩ (.int .i64 x.f1)).setCell ⟨g6,2,none⟩ (.int .i64 x.f2)).setCell ⟨g6,3,none⟩ (.slice A3 x.f3.length e3)).setCell ⟨g6,4,none⟩ (.int .i64 x.f4)).setCell ⟨g6,5,none⟩ (.int .i64 x.f5)).setCell ⟨g6,6,none⟩ (.int .i64 x.f6)).setCell ⟨g6,7,none⟩ (.slice A7 x.f7.length e7)) g6 x A3 e3 A7 e7):=⟨put47_blk HAg6.out rfl _ _ _ _ _ _ _ _⟩
   generalize ((((((((w5.setCell ⟨g6,0,none⟩ (.int .i64 x.f0)).setCell ⟨g6,1,none⟩ (.int .i64 x.f1)).setCell ⟨g6,2,none⟩ (.int .i64 x.f2)).setCell ⟨g6,3,none⟩ (.slice A3 x.f3.length e3)).setCell ⟨g6,4,none⟩ (.int .i64 x.f4)).setCell ⟨g6,5,none⟩ (.int .i64 x.f5)).setCell ⟨g6,6,none⟩ (.int .i64 x.f6)).setCell ⟨g6,7,none⟩ (.slice A7 x.f7.length e7))=w6 at HXg6 HPg6 ⊢;clear z0 y0 z1 y1 z2 y2 z3 y3 z4 y4 z5 y5 z6 y6 z7 y7 HAg6 HBg6 HGg6;replace q0:=pw_cell_below HXg6.out q0;replace q1:=pw_cell_below HXg6.out q1;replace q2:=pw_cell_below HXg6.out q2
   replace q3:=pw_cell_below HXg6.out q3;replace q4:=pw_cell_below HXg6.out q4;replace q5:=pw_cell_below HXg6.out q5;replace q6:=pw_cell_below HXg6.out q6;replace q7:=pw_cell_below HXg6.out q7;clear p0 p1 p2 p3 p4 p5 p6 p7
   go_upto_region 8 with ((with_reducible refine gate_dst (N:=7) rfl ?_);refine box47_zero_event rfl rfl rfl ?_;intro g7 w7 hg7 hAg7 hbg7;have HGg7:=ak hg7;have HAg7:=ak hAg7;have HBg7:=ak hbg7;have z0:w7.cell? ⟨g7,0,none⟩=some (.int .i64 0):=(qk hAg7 0);have y0:=blk_frozen hAg7 0;have z1:w7.cell? ⟨g7,1,none⟩=some (.int .i64 0):=(qk hAg7 1);have y1:=blk_frozen hAg7 1;have z2:w7.cell? ⟨g7,2,none⟩=some (.int .i64 0):=(qk hAg7 2);have y2:=blk_frozen hAg7 2;have z3:w7.cell? ⟨g7,3,none⟩=some (.slice none 0 0):=(qk hAg7 3);have y3:=blk_frozen hAg7 3;have z4:w7.cell? ⟨g7,4,none⟩=some (.int .i64 0):=(qk hAg7 4);have y4:=blk_frozen hAg7 4;have z5:w7.cell? ⟨g7,5,none⟩=some (.int .i64 0):=(qk hAg7 5);have y5:=blk_frozen hAg7 5;have z6:w7.cell? ⟨g7,6,none⟩=some (.int .i64 0):=(qk hAg7 6);have y6:=blk_frozen hAg7 6;have z7:w7.cell? ⟨g7,7,none⟩=some (.slice none 0 0):=(qk hAg7 7);have y7:=blk_frozen hAg7 7;clear hg7 hAg7 hbg7)
   have HXg7:Aside0 (Below w6.heap.size w6 ((((((((w7.setCell ⟨g7,0,none⟩ (.int .i64 x.f0)).setCell ⟨g7,1,none⟩ (.int .i64 x.f1)).setCell ⟨g7,2,none⟩ (.int .i64 x.f2)).setCell ⟨g7,3,none⟩ (.slice B3 x.f3.length f3)).setCell ⟨g7,4,none⟩ (.int .i64 x.f4)).setCell ⟨g7,5,none⟩ (.int .i64 x.f5)).setCell ⟨g7,6,none⟩ (.int .i64 x.f6)).setCell ⟨g7,7,none⟩ (.slice B7 x.f7.length f7))):=⟨LiveRunW.put47_below HBg7.out HGg7.out _ _ _ _ _ _ _ _⟩
   have HPg7:Aside0 (At47 ((((((((w7.setCell ⟨g7,0,none⟩ (.int .i64 x.f0)).setCell ⟨g7,1,none⟩ (.int .i64 x.f1)).setCell ⟨g7,2,none⟩ (.int .i64 x.f2)).setCell ⟨g7,3,none⟩ (.slice B3 x.f3.length f3)).setCell ⟨g7,4,none⟩ (.int .i64 x.f4)).setCell ⟨g7,5,none⟩ (.int .i64 x.f5)).setCell ⟨g7,6,none⟩ (.int .i64 x.f6)).setCell ⟨g7,7,none⟩ (.slice B7 x.f7.length f7)) g7 x B3 f3 B7 f7):=⟨put47_blk HAg7.out rfl _ _ _ _ _ _ _ _⟩
   generalize ((((((((w7.setCell ⟨g7,0,none⟩ (.int .i64 x.f0)).setCell ⟨g7,1,none⟩ (.int .i64 x.f1)).setCell ⟨g7,2,none⟩ (.int .i64 x.f2)).setCell ⟨g7,3,none⟩ (.slice B3 x.f3.length f3)).setCell ⟨g7,4,none⟩ (.int .i64 x.f4)).setCell ⟨g7,5,none⟩ (.int .i64 x.f5)).setCell ⟨g7,6,none⟩ (.int .i64 x.f6)).setCell ⟨g7,7,none⟩ (.slice B7 x.f7.length f7))=w8 at HXg7 HPg7 ⊢;clear z0 y0 z1 y1 z2 y2 z3 y3 z4 y4 z5 y5 z6 y6 z7 y7 HAg7 HBg7 HGg7;clear q0 q1 q2 q3 q4 q5 q6 q7;have HB8:=ak (below_step HB.out (below_step HXg6.out HXg7.out))
   obtain ⟨u0,u1,u2,u3,u4,u5,u6,u7⟩:=cells47_of (at47_below HPg6.out HXg7.out);obtain ⟨v0,v1,v2,v3,v4,v5,v6,v7⟩:=cells47_of HPg7.out
   go_wp2_with (first
    |(go_at_call 66;refine (opnds66_calls x.f3 A3 B3 e3 f3 _ (Kd.C_below HR0.out.r3 HB8.out) HR0.out.l3 (Kd.C_below HR1.out.r3 HB8.out) HR1.out.l3).mono ?_;rintro e w9 ⟨rfl,hb9⟩;have HB9:=ak (below_step HB8.out hb9);replace u7:=pw_cell_below hb9 u7;replace v7:=pw_cell_below hb9 v7;clear hb9 u0 u1 u2 u3 u4 u5 u6 v0 v1 v2 v3 v4 v5 v6)
    |(go_at_call 67;refine (shapes67_calls x.f7 A7 B7 e7 f7 _ (Kd.C_below HR0.out.r7 HB9.out) (Kd.C_below HR1.out.r7 HB9.out)).mono ?_;rintro e w10 ⟨rfl,hb10⟩;have HB10:=ak (below_step HB9.out hb10);clear hb10 u7 v7))
   go_roundw
   case rel=>exact ⟨i+1,by have:=HLT.out;omega,by go_num,HB10⟩
   case measure=>have:=HLT.out;simp [intOf];omega
  ·obtain rfl:i=l.length:=by omega
   go_wp2_with fail
   go_ret
   exact ⟨rfl,HB.out⟩
end Go.Proofs.Ytklknkfoafdgpaa.LiveEqK
