import Derived.Test.YtklknkfoafdgpaaLiveSet
namespace Go.Proofs.Ytklknkfoafdgpaa.LiveAhead
set_option maxHeartbeats 8000000
set_option maxRecDepth 100000
open RowKit YtklknkfoafdgpaaW.PrintWords YtklknkfoafdgpaaW.PrintLast YtklknkfoafdgpaaW.PrintMore
open PLiveKnown LiveT LiveB LiveSet
set_option linter.unusedVariables false
set_option linter.unusedSimpArgs false
def q47 (x:S47):Bool:=x.f0==1||x.f0==2
def regsOf (l:List S82):List Int:=(l.filter fun o=>o.f0==0).map S82.f1
def asks47 (x:S47) (r:Int):Bool:=(regsOf x.f3).contains r||x.f7.any fun s=>(regsOf s.f2).contains r
def iOf (x:S47):I:=⟨q47 x,x.f2,asks47 x⟩
structure RIn (w:World) (x:S47) (A3:Option Addr) (c3:Nat) (A7:Option Addr) (c7:Nat):Prop where
 r3:Kd.C k82 w A3 x.f3.length x.f3
 l3:x.f3.length≤c3
 r7:Kd.C k78 w A7 x.f7.length x.f7
 l7:x.f7.length≤c7
theorem RIn.below {w w1:World} {x:S47} {A3:Option Addr} {c3:Nat} {A7:Option Addr} {c7:Nat} (h:RIn w x A3 c3 A7 c7) (hb:Below w.heap.size w w1):RIn w1 x A3 c3 A7 c7:=⟨Kd.C_below h.r3 hb,h.l3,Kd.C_below h.r7 hb,h.l7⟩
def cells47 (x:S47) (A3:Option Addr) (c3:Nat) (A7:Option Addr) (c7:Nat):Array Value:= #[.int .i64 x.f0,.int .i64 x.f1,.int .i64 x.f2,.slice A3 x.f3.length c3,.int .i64 x.f4,.int .i64 x.f5,.int .i64 x.f6,.slice A7 x.f7.length c7]
def v47 (x:S47) (A3:Option Addr) (c3:Nat) (A7:Option Addr) (c7:Nat):Value:= .agg (cells47 x A3 c3 A7 c7)
def At47 (w:World) (g:Nat) (x:S47) (A3:Option Addr) (c3:Nat) (A7:Option Addr) (c7:Nat):Prop:=w.heap[g]? =some (.cells (cells47 x A3 c3 A7 c7) 47 (0,0))
theorem quiet_calls (x:S47) (A3:Option Addr) (c3:Nat) (A7:Option Addr) (c7:Nat) (w:World) (h:RIn w x A3 c3 A7 c7) :
  Calls Try.prog 58 #[v47 x A3 c3 A7 c7] w fun e w'=>e= .returned (.bool (q47 x))∧Below w.heap.size w w':=by
 refine live_quiet.calls x.f0 x.f1 x.f2 A3 c3 x.f3 x.f4 x.f5 x.f6 A7 c7 x.f7 (q47 x) w h.r3 h.l3 h.r7 h.l7 ?_;unfold live_quiet.f q47
 by_cases h1:x.f0=1
 ·simp [h1]
 ·rw [if_neg h1]
  simp [h1]
section
variable {ops:Array Oper} {rest:List Oper} {o:Oper} {a:Act} {Q:Exit→Act→World→Prop}
theorem box47_event {W:World} (hgd:o.guard=none) {N:Tmp} (_hd:o.dst=some N) {v:Operand} (ho:o.op= .box 47 v) {x:S47} {A3:Option Addr} {c3:Nat} {A7:Option Addr} {c7:Nat} (hv:a.eval v=v47 x A3 c3 A7 c7)
  (h:∀ g w1,W.heap.size≤g→At47 w1 g x A3 c3 A7 c7→Below W.heap.size W w1→wpList Try.prog ops Q rest (a.put o.dst (.pointer (some ⟨g,0,none⟩))) w1):wpList Try.prog ops Q (o::rest) a W:=by
 refine box_event hgd (N:=N) _hd (cs:=cells47 x A3 c3 A7 c7) (t:=47) ?_ (fun g hg w1 h1 h2=>h g w1 (Nat.le_of_eq hg.symm) h1 h2);simp only [execOp,ho,hv,v47,cells47];go_simp
 first |done |rfl
end
theorem at47_below {w w1:World} {g:Nat} {x:S47} {A3:Option Addr} {c3:Nat} {A7:Option Addr} {c7:Nat} (h:At47 w g x A3 c3 A7 c7) (hb:Below w.heap.size w w1):At47 w1 g x A3 c3 A7 c7:=(hb.block g (blk_lt h)).trans h
structure Cells47 (w:World) (g:Nat) (x:S47) (A3:Option Addr) (c3:Nat) (A7:Option Addr) (c7:Nat):Prop where
 c0:w.cell? ⟨g,0,none⟩=some (.int .i64 x.f0)
 c1:w.cell? ⟨g,1,none⟩=some (.int .i64 x.f1)
 c2:w.cell? ⟨g,2,none⟩=some (.int .i64 x.f2)
 c3:w.cell? ⟨g,3,none⟩=some (.slice A3 x.f3.length c3)
 c4:w.cell? ⟨g,4,none⟩=some (.int .i64 x.f4)
 c5:w.cell? ⟨g,5,none⟩=some (.int .i64 x.f5)
 c6:w.cell? ⟨g,6,none⟩=some (.int .i64 x.f6)
 c7:w.cell? ⟨g,7,none⟩=some (.slice A7 x.f7.length c7)
theorem cells47_of {w:World} {g:Nat} {x:S47} {A3:Option Addr} {c3:Nat} {A7:Option Addr} {c7:Nat} (h:At47 w g x A3 c3 A7 c7):Cells47 w g x A3 c3 A7 c7:=
 ⟨qk h 0,qk h 1,qk h 2,qk h 3,qk h 4,qk h 5,qk h 6,qk h 7⟩
theorem idle_calls (x:S47) (A3:Option Addr) (c3:Nat) (A7:Option Addr) (c7:Nat) (S:RS) (hS:Regs S) (w:World) (h:RIn w x A3 c3 A7 c7) :
  Calls Try.prog 35 #[v47 x A3 c3 A7 c7,setV S] w fun e w'=>e= .returned (.bool (idle (iOf x) S))∧Below w.heap.size w w':=by
 have HX:=ak h;have HS:=ak hS;clear h hS;obtain ⟨q,hq⟩:∃ q,q47 x=q:=⟨_,rfl⟩
 obtain ⟨t,ht⟩:∃ t,S x.f2=t:=⟨_,rfl⟩
 have hres:idle (iOf x) S=(q&& !t):=by simp only [idle,iOf,hq,ht]
 rw [hres];have HQ:=ak hq;have HT:=ak ht;clear hres hq ht
 go_enter Try.func35,Try.ntmps35
 cases q
 ·go_wp2_with (first
   |((with_reducible refine gate_dst (N:=2) rfl ?_);refine box47_event rfl rfl rfl rfl ?_;intro ga w1 hga hA1 hb1;have HA1:=ak hA1;have HB1:=ak hb1;clear hga hA1 hb1)
   |((with_reducible refine gate_dst (N:=3) rfl ?_);refine setBox_event rfl rfl rfl rfl ?_;intro gb w2 hgb hA2 hb2;obtain ⟨u0,u1,u2,u3,u4,u5,u6,u7⟩:=cells47_of (at47_below HA1.out hb2);have HB2:=ak (below_step HB1.out hb2);clear hgb hA2 hb2)
   |(go_at_call 58;refine (quiet_calls x A3 c3 A7 c7 _ (HX.out.below HB2.out)).mono ?_;rw [HQ.out];rintro e w3 ⟨rfl,hb3⟩;have HB3:=ak (below_step HB2.out hb3);clear hb3))
  go_ret
  exact ⟨rfl,HB3.out⟩
 ·go_wp2_with (first
   |((with_reducible refine gate_dst (N:=2) rfl ?_);refine box47_event rfl rfl rfl rfl ?_;intro ga w1 hga hA1 hb1;have HA1:=ak hA1;have HB1:=ak hb1;clear hga hA1 hb1)
   |((with_reducible refine gate_dst (N:=3) rfl ?_);refine setBox_event rfl rfl rfl rfl ?_;intro gb w2 hgb hA2 hb2;obtain ⟨u0,u1,u2,u3,u4,u5,u6,u7⟩:=cells47_of (at47_below HA1.out hb2);have HA2:=ak hA2;have HA12:=ak (at47_below HA1.out hb2);have HB2:=ak (below_step HB1.out hb2);clear hgb hA2 hb2)
   |(go_at_call 58;refine (quiet_calls x A3 c3 A7 c7 _ (HX.out.below HB2.out)).mono ?_;rw [HQ.out];rintro e w3 ⟨rfl,hb3⟩;have HB3:=ak (below_step HB2.out hb3);obtain ⟨h0,h1,h2,h3,h4,h5,h6,h7,f0,f1,f2,f3,f4,f5,f6,f7⟩:=cells8 (at_below HA2.out hb3);clear f0 f1 f2 f3 f4 f5 f6 f7;have d2:=(cells47_of (at47_below HA12.out hb3)).c2;clear hb3)
   |(go_at_call 31;refine (has_calls S HS.out x.f2 _).mono ?_;rw [HT.out];rintro e w4 ⟨rfl,hb4⟩;have HB4:=ak (below_step HB3.out hb4);clear hb4))
  go_ret
  exact ⟨rfl,HB4.out⟩
theorem regs_take (l:List S82) (k:Nat) (hk:k<l.length):regsOf (l.take (k+1))=regsOf (l.take k)++(if ((rd_T82 l k).f0==0)=true then [(rd_T82 l k).f1] else []):=by
 have hg:rd_T82 l k=l[k]:=by simp [rd_T82,List.getD_eq_getElem?_getD,hk]
 rw [hg,List.take_add_one,List.getElem?_eq_getElem hk];simp only [regsOf,Option.toList_some,List.filter_append,List.map_append,List.filter_cons,List.filter_nil]
 split<;>rfl
theorem addL_append (S:RS) (l m:List Int):addL S (l++m)=addL (addL S l) m:=by simp only [addL,List.foldl_append]
def slotsOf (l:List S78):List Int:=l.flatMap fun s=>regsOf s.f2
theorem slots_take (l:List S78) (k:Nat) (hk:k<l.length):slotsOf (l.take (k+1))=slotsOf (l.take k)++regsOf (rd_T78 l k).f2:=by
 have hg:rd_T78 l k=l[k]:=by simp [rd_T78,List.getD_eq_getElem?_getD,hk]
 rw [hg,List.take_add_one,List.getElem?_eq_getElem hk];simp only [slotsOf,Option.toList_some,List.flatMap_append,List.flatMap_cons,List.flatMap_nil,List.append_nil]
theorem ahead_add (x:S47) (S:RS) (h:idle (iOf x) S=false):LiveT.ahead (iOf x) S=addL (addL (delR S x.f2) (regsOf x.f3)) (slotsOf x.f7):=by
 simp only [LiveT.ahead,h];rw [if_neg (by decide),addL_eq,addL_eq]
 funext r
 simp only [iOf,asks47,delR,slotsOf];have h2:(x.f7.flatMap fun s=>regsOf s.f2).contains r=x.f7.any fun s=>(regsOf s.f2).contains r:=by
  rw [Bool.eq_iff_iff]
  simp [List.any_eq_true]
 rw [h2];cases S r<;>cases (r != x.f2)<;>cases inR r<;>cases (regsOf x.f3).contains r<;>simp
structure AW (w W:World) (x:S47) (A3:Option Addr) (c3:Nat) (A7:Option Addr) (c7:Nat) (a b c:Nat) (S:RS):Prop where
 below:Below w.heap.size w W
 xa:At47 W a x A3 c3 A7 c7
 sb:At W b S
 sc:At W c none'
 ab:a≠b
 bc:b≠c
 la:w.heap.size≤a
 lb:w.heap.size≤b
 lc:w.heap.size≤c
section
variable {w W W1:World} {x:S47} {A3:Option Addr} {c3:Nat} {A7:Option Addr} {c7:Nat} {a b c:Nat} {S T:RS}
theorem AW.next (h:AW w W x A3 c3 A7 c7 a b c S) (hb:Below W.heap.size W W1):AW w W1 x A3 c3 A7 c7 a b c S:=
 ⟨below_step h.below hb,at47_below h.xa hb,at_below h.sb hb,at_below h.sc hb,h.ab,h.bc,h.la,h.lb,h.lc⟩
theorem AW.put (h:AW w W x A3 c3 A7 c7 a b c S) (hA:At W1 b T) (hg:W.grownBy W1 (some b)):AW w W1 x A3 c3 A7 c7 a b c T:=
 ⟨h.below.grown hg h.below.size (fun k hk=>by cases hk;exact h.lb),blk_grown h.xa hg (by intro he;cases he;exact h.ab rfl),hA,at_grown h.sc hg (by intro he;cases he;exact h.bc rfl),h.ab,h.bc,h.la,h.lb,h.lc⟩
theorem rd_opnd {A:Option Addr} {n:Nat} {l:List S82} (hr:Kd.C k82 w A n l) (hb:Below w.heap.size w W) (k:Nat) (hk:k<n):∃ ad,A=some ad∧W.cell? (ad.add (k*2))=some (.int .i64 (rd_T82 l k).f0)∧W.cell? ⟨(ad.add (k*2)).block,(ad.add (k*2)).off+1,none⟩=some (.int .i64 (rd_T82 l k).f1):=by
 obtain ⟨ad,e,h0,h1⟩:=at_T82 hr (k:Int) (by omega) (by omega);simp only [Int.toNat_natCast] at h0 h1;exact ⟨ad,e,pw_cell_below hb h0,pw_cell_below hb h1⟩
theorem rd_shape {A:Option Addr} {n:Nat} {l:List S78} (hr:Kd.C k78 w A n l) (hb:Below w.heap.size w W) (k:Nat) (hk:k<n):∃ ad A2 c2,A=some ad∧W.cell? (ad.add (k*3))=some (.int .i64 (rd_T78 l k).f0)∧W.cell? ⟨(ad.add (k*3)).block,(ad.add (k*3)).off+1,none⟩=some (.int .i64 (rd_T78 l k).f1)∧W.cell? ⟨(ad.add (k*3)).block,(ad.add (k*3)).off+2,none⟩=some (.slice A2 (rd_T78 l k).f2.length c2)∧Kd.C k82 w A2 (rd_T78 l k).f2.length (rd_T78 l k).f2:=by
 obtain ⟨ad,A2,c2,e,h0,h1,h2,_,h3⟩:=at_T78 hr (k:Int) (by omega) (by omega);simp only [Int.toNat_natCast] at h0 h1 h2;exact ⟨ad,A2,c2,e,pw_cell_below hb h0,pw_cell_below hb h1,pw_cell_below hb h2,h3⟩
end
section
variable {ops:Array Oper} {rest:List Oper} {o:Oper} {a:Act} {Q:Exit→Act→World→Prop}
theorem alloc82_event {W:World} (hgd:o.guard=none) {N:Tmp} (_hd:o.dst=some N) (ho:o.op= .alloc 82)
  (h:∀ g w1,W.heap.size≤g→w1.heap[g]? =some (.cells #[.int .i64 0,.int .i64 0] 82 (0,0))→Below W.heap.size W w1→wpList Try.prog ops Q rest (a.put o.dst (.pointer (some ⟨g,0,none⟩))) w1):wpList Try.prog ops Q (o::rest) a W:=by
 refine box_event hgd (N:=N) _hd (cs:= #[.int .i64 0,.int .i64 0]) (t:=82) ?_ (fun g hg w1 h1 h2=>h g w1 (Nat.le_of_eq hg.symm) h1 h2);simp only [execOp,ho];go_simp
 first |done |rfl
theorem alloc78_event {W:World} (hgd:o.guard=none) {N:Tmp} (_hd:o.dst=some N) (ho:o.op= .alloc 78)
  (h:∀ g w1,W.heap.size≤g→w1.heap[g]? =some (.cells #[.int .i64 0,.int .i64 0,.slice none 0 0] 78 (0,0))→Below W.heap.size W w1→wpList Try.prog ops Q rest (a.put o.dst (.pointer (some ⟨g,0,none⟩))) w1):wpList Try.prog ops Q (o::rest) a W:=by
 refine box_event hgd (N:=N) _hd (cs:= #[.int .i64 0,.int .i64 0,.slice none 0 0]) (t:=78) ?_ (fun g hg w1 h1 h2=>h g w1 (Nat.le_of_eq hg.symm) h1 h2);simp only [execOp,ho];go_simp
 first |done |rfl
end
theorem ahead_calls (x:S47) (A3:Option Addr) (c3:Nat) (A7:Option Addr) (c7:Nat) (S:RS) (hS:Regs S) (w:World) (h:RIn w x A3 c3 A7 c7) :
  Calls Try.prog 30 #[v47 x A3 c3 A7 c7,setV S] w fun e w'=>e= .returned (setV (LiveT.ahead (iOf x) S))∧Below w.heap.size w w':=by
 have HX:=ak h;have HS:=ak hS;clear h hS;obtain ⟨t,ht⟩:∃ t,idle (iOf x) S=t:=⟨_,rfl⟩
 have HT:=ak ht;clear ht
 go_enter Try.func30,Try.ntmps30
 cases t
 ·rw [ahead_add x S HT.out]
  go_wp2_with (first
   |((with_reducible refine gate_dst (N:=2) rfl ?_);refine box47_event rfl rfl rfl rfl ?_;intro ga w1 hga hA1 hb1;have HG1:=ak hga;have HA1:=ak hA1;have HB1:=ak hb1;clear hga hA1 hb1)
   |((with_reducible refine gate_dst (N:=3) rfl ?_);refine setBox_event rfl rfl rfl rfl ?_;intro gb w2 hgb hA2 hb2;have HG2:=ak hgb;have HA2:=ak hA2;have HB2:=ak hb2;clear hgb hA2 hb2)
   |((with_reducible refine gate_dst (N:=4) rfl ?_);refine setAlloc_event rfl rfl rfl ?_;intro gc w3 hgc hA3 hb3;have HG3:=ak hgc;have HA3:=ak hA3;have HB3:=ak hb3;clear hgc hA3 hb3;
     have H0:Aside0 (AW w w3 x A3 c3 A7 c7 ga gb gc S):=(⟨by
      have b12:=below_step HB1.out HB2.out;have a2:=at47_below HA1.out HB2.out;have l2:=Nat.le_trans HB1.out.size HG2.out;have h1:ga<w1.heap.size:=blk_lt HA1.out;have h2:gb<w2.heap.size:=blk_lt HA2.out;exact ⟨below_step b12 HB3.out,at47_below a2 HB3.out,at_below HA2.out HB3.out,HA3.out,by have:=HG2.out;omega,by have:=HG3.out;omega,HG1.out,l2,Nat.le_trans b12.size HG3.out⟩⟩);
     obtain ⟨u0,u1,u2,u3,u4,u5,u6,u7⟩:=cells47_of H0.out.xa;obtain ⟨h0,h1,h2,h3,h4,h5,h6,h7,f0,f1,f2,f3,f4,f5,f6,f7⟩:=cells8 H0.out.sb)
   |(go_at_call 35;refine (idle_calls x A3 c3 A7 c7 S HS.out _ (HX.out.below H0.out.below)).mono ?_;rw [HT.out];rintro e w4 ⟨rfl,hb4⟩;have H1:=ak (H0.out.next hb4);clear h0 h1 h2 h3 h4 h5 h6 h7 f0 f1 f2 f3 f4 f5 f6 f7 u0 u1 u2 u3 u4 u5 u6 u7;obtain ⟨v0,v1,v2,v3,v4,v5,v6,v7⟩:=cells47_of H1.out.xa;clear v0 v1 v3 v4 v5 v6 v7;clear hb4)
   |(go_at_call 53;refine (del_calls gb S x.f2 _ H1.out.sb HS.out).mono ?_;rintro e w5 ⟨rfl,hg5,hA5⟩;have H2:=ak (H1.out.put hA5 hg5);obtain ⟨p0,p1,p2,p3,p4,p5,p6,p7⟩:=cells47_of H2.out.xa;clear hg5 hA5 p0 p1 p2 p4 p5 p6))
  clear HG1 HG2 HG3 HA1 HA2 HA3 HB1 HB2 HB3 H0 H1 v2;have H3:Aside0 (AW w w5 x A3 c3 A7 c7 ga gb gc (addL (delR S x.f2) (regsOf (x.f3.take 0)))):=H2;clear H2;have hmx3:x.f3.length≤9223372036854775807:=Kd.C_max HX.out.r3;have hmx7:x.f7.length≤9223372036854775807:=Kd.C_max HX.out.r7
  go_loopw [21] (fun i wr=>∃ (k:Nat),k≤x.f3.length∧i= .int .i64 k∧Aside0 (AW w wr x A3 c3 A7 c7 ga gb gc (addL (delR S x.f2) (regsOf (x.f3.take k))))) (fun i _=>x.f3.length-(intOf i).toNat)
  case atStart=>exact ⟨0,by omega,rfl,H3⟩
  case round =>
   clear H3 p3 p7;obtain ⟨k,hk,rfl,HA⟩:=hrel
   by_cases hltk:k<x.f3.length
   ·obtain ⟨ad,e1,hx0,hx1⟩:=rd_opnd HX.out.r3 HA.out.below k hltk;subst e1;have hreg:=regs_take x.f3 k hltk;generalize rd_T82 x.f3 k=o at hx0 hx1 hreg;obtain ⟨ok,on⟩:=o;simp only at hx0 hx1 hreg;have HREG:=ak hreg;clear hreg
    by_cases hz:ok=0
    ·have hzb:(ok==0)=true:=beq_iff_eq.mpr hz
     go_wp2_with (first
      |(refine alloc82_event rfl rfl rfl ?_;intro g5 w6 hg5 hA5 hb5;have HG5:=ak hg5;have HB5:=ak hb5;have i0:=(blk_cell hA5 0).trans (rfl: #[Value.int .i64 0,.int .i64 0][0]? =some (.int .i64 0));have i1:=(blk_cell hA5 1).trans (rfl: #[Value.int .i64 0,.int .i64 0][1]? =some (.int .i64 0));have j0:=blk_frozen hA5 0;have j1:=blk_frozen hA5 1;replace hx0:=pw_cell_below hb5 hx0;replace hx1:=pw_cell_below hb5 hx1;clear hg5 hA5 hb5)
      |(go_at_call 54;refine (add_calls gb _ on _ (HA.out.next (below_set (below_set HB5.out HG5.out) HG5.out)).sb).mono ?_;rintro e w7 ⟨rfl,hg7,hA7⟩;have HN:=ak ((HA.out.next (below_set (below_set HB5.out HG5.out) HG5.out)).put hA7 hg7);clear hg7 hA7))
     go_roundw
     case rel=>exact ⟨k+1,by omega,by go_num,⟨by rw [HREG.out,if_pos hzb,addL_append];exact HN.out⟩⟩
     case measure=>simp [intOf];omega
    ·have hzb:(ok==0)=false:=beq_eq_false_iff_ne.mpr hz
     go_wp2_with (first
      |(refine alloc82_event rfl rfl rfl ?_;intro g5 w6 hg5 hA5 hb5;have HG5:=ak hg5;have HB5:=ak hb5;have i0:=(blk_cell hA5 0).trans (rfl: #[Value.int .i64 0,.int .i64 0][0]? =some (.int .i64 0));have i1:=(blk_cell hA5 1).trans (rfl: #[Value.int .i64 0,.int .i64 0][1]? =some (.int .i64 0));have j0:=blk_frozen hA5 0;have j1:=blk_frozen hA5 1;replace hx0:=pw_cell_below hb5 hx0;replace hx1:=pw_cell_below hb5 hx1;clear hg5 hA5 hb5))
     go_roundw
     case rel=>exact ⟨k+1,by omega,by go_num,⟨by rw [HREG.out,if_neg (by rw [hzb];decide),List.append_nil];exact HA.out.next (below_set (below_set HB5.out HG5.out) HG5.out)⟩⟩
     case measure=>simp [intOf];omega
   ·obtain rfl:k=x.f3.length:=by omega
    rw [List.take_length] at HA;have p7:=(cells47_of HA.out.xa).c7;have H4:Aside0 (AW w wr x A3 c3 A7 c7 ga gb gc (addL (addL (delR S x.f2) (regsOf x.f3)) (slotsOf (x.f7.take 0)))):=HA;clear HA
    go_wp2_with fail
    go_loopw [35] (fun i wr=>∃ (j:Nat),j≤x.f7.length∧i= .int .i64 j∧Aside0 (AW w wr x A3 c3 A7 c7 ga gb gc (addL (addL (delR S x.f2) (regsOf x.f3)) (slotsOf (x.f7.take j))))) (fun i _=>x.f7.length-(intOf i).toNat)
    case atStart=>exact ⟨0,by omega,rfl,H4⟩
    case round =>
     clear H4 p7;obtain ⟨j,hj,rfl,HA⟩:=hrel
     by_cases hltj:j<x.f7.length
     ·obtain ⟨ad,A2,c2,e1,hx0,hx1,hx2,hC2⟩:=rd_shape HX.out.r7 HA.out.below j hltj;subst e1;have HC2:=ak hC2;have HREGS:=ak (slots_take x.f7 j hltj);clear hC2
      go_wp2_with (first
       |(refine alloc78_event rfl rfl rfl ?_;intro g8 w8 hg8 hA8 hb8;have HG8:=ak hg8;have HB8:=ak hb8;have i0:=(blk_cell hA8 0).trans (rfl: #[Value.int .i64 0,.int .i64 0,.slice none 0 0][0]? =some (.int .i64 0));have i1:=(blk_cell hA8 1).trans (rfl: #[Value.int .i64 0,.int .i64 0,.slice none 0 0][1]? =some (.int .i64 0));have i2:=(blk_cell hA8 2).trans (rfl: #[Value.int .i64 0,.int .i64 0,.slice none 0 0][2]? =some (.slice none 0 0));have j0:=blk_frozen hA8 0;have j1:=blk_frozen hA8 1;have j2:=blk_frozen hA8 2;replace hx0:=pw_cell_below hb8 hx0;replace hx1:=pw_cell_below hb8 hx1;replace hx2:=pw_cell_below hb8 hx2;clear hg8 hA8 hb8))
      have H5:Aside0 (AW w (((w8.setCell ⟨g8,0,none⟩ (.int .i64 (rd_T78 x.f7 j).f0)).setCell ⟨g8,1,none⟩ (.int .i64 (rd_T78 x.f7 j).f1)).setCell ⟨g8,2,none⟩ (.slice A2 (rd_T78 x.f7 j).f2.length c2)) x A3 c3 (some ad) c7 ga gb gc (addL (addL (addL (delR S x.f2) (regsOf x.f3)) (slotsOf (x.f7.take j))) (regsOf ((rd_T78 x.f7 j).f2.take 0)))):=⟨HA.out.next (below_set (below_set (below_set HB8.out HG8.out) HG8.out) HG8.out)⟩
      clear HA HB8 HG8 i0 i1 i2 j0 j1 j2 hx0 hx1 hx2;have hmx2:(rd_T78 x.f7 j).f2.length≤9223372036854775807:=Kd.C_max HC2.out
      go_loopw [42] (fun i wr=>∃ (i':Nat),i'≤(rd_T78 x.f7 j).f2.length∧i= .int .i64 i'∧Aside0 (AW w wr x A3 c3 (some ad) c7 ga gb gc (addL (addL (addL (delR S x.f2) (regsOf x.f3)) (slotsOf (x.f7.take j))) (regsOf ((rd_T78 x.f7 j).f2.take i'))))) (fun i _=>(rd_T78 x.f7 j).f2.length-(intOf i).toNat)
      case atStart=>exact ⟨0,by omega,rfl,H5⟩
      case round =>
       clear H5;obtain ⟨i,hi,rfl,HA⟩:=hrel
       by_cases hlti:i<(rd_T78 x.f7 j).f2.length
       ·obtain ⟨ad2,e1,hx0,hx1⟩:=rd_opnd HC2.out HA.out.below i hlti;subst e1;have hreg:=regs_take (rd_T78 x.f7 j).f2 i hlti;generalize rd_T82 (rd_T78 x.f7 j).f2 i=o at hx0 hx1 hreg;obtain ⟨ok,on⟩:=o;simp only at hx0 hx1 hreg;have HREG:=ak hreg;clear hreg
        by_cases hz:ok=0
        ·have hzb:(ok==0)=true:=beq_iff_eq.mpr hz
         go_wp2_with (first
          |(refine alloc82_event rfl rfl rfl ?_;intro g5 w6 hg5 hA5 hb5;have HG5:=ak hg5;have HB5:=ak hb5;have i0:=(blk_cell hA5 0).trans (rfl: #[Value.int .i64 0,.int .i64 0][0]? =some (.int .i64 0));have i1:=(blk_cell hA5 1).trans (rfl: #[Value.int .i64 0,.int .i64 0][1]? =some (.int .i64 0));have j0:=blk_frozen hA5 0;have j1:=blk_frozen hA5 1;replace hx0:=pw_cell_below hb5 hx0;replace hx1:=pw_cell_below hb5 hx1;clear hg5 hA5 hb5)
          |(go_at_call 54;refine (add_calls gb _ on _ (HA.out.next (below_set (below_set HB5.out HG5.out) HG5.out)).sb).mono ?_;rintro e w7 ⟨rfl,hg7,hA7⟩;have HN:=ak ((HA.out.next (below_set (below_set HB5.out HG5.out) HG5.out)).put hA7 hg7);clear hg7 hA7))
         go_roundw
         case rel=>exact ⟨i+1,by omega,by go_num,⟨by rw [HREG.out,if_pos hzb,addL_append];exact HN.out⟩⟩
         case measure=>simp [intOf];omega
        ·have hzb:(ok==0)=false:=beq_eq_false_iff_ne.mpr hz
         go_wp2_with (first
          |(refine alloc82_event rfl rfl rfl ?_;intro g5 w6 hg5 hA5 hb5;have HG5:=ak hg5;have HB5:=ak hb5;have i0:=(blk_cell hA5 0).trans (rfl: #[Value.int .i64 0,.int .i64 0][0]? =some (.int .i64 0));have i1:=(blk_cell hA5 1).trans (rfl: #[Value.int .i64 0,.int .i64 0][1]? =some (.int .i64 0));have j0:=blk_frozen hA5 0;have j1:=blk_frozen hA5 1;replace hx0:=pw_cell_below hb5 hx0;replace hx1:=pw_cell_below hb5 hx1;clear hg5 hA5 hb5))
         go_roundw
         case rel=>exact ⟨i+1,by omega,by go_num,⟨by rw [HREG.out,if_neg (by rw [hzb];decide),List.append_nil];exact HA.out.next (below_set (below_set HB5.out HG5.out) HG5.out)⟩⟩
         case measure=>simp [intOf];omega
       ·obtain rfl:i=(rd_T78 x.f7 j).f2.length:=by omega
        rw [List.take_length] at HA
        go_wp2_with fail
        go_roundw
        case rel=>exact ⟨j+1,by omega,by go_num,⟨by rw [HREGS.out,addL_append];exact HA.out⟩⟩
        case measure=>simp [intOf];omega
     ·obtain rfl:j=x.f7.length:=by omega
      rw [List.take_length] at HA
      go_wp2_with (first
       |(refine setLoad_event rfl rfl rfl rfl HA.out.sb ?_)
       |(refine setStore_event rfl rfl rfl rfl rfl HA.out.sc ?_;intro w5 hA5 hg5;have HA5:=ak hA5;have HB5:=ak (HA.out.below.grown hg5 HA.out.below.size (fun k hk=>by cases hk;exact HA.out.lc));clear hA5 hg5))
      refine bodyPost_ret (results_cell_row rfl _ _ gc 64 (cellsV _) (0,0) _ rfl HA5.out Try.underlying64 rfl (by kernel_rfl)) rfl ?_;exact ⟨rfl,HB5.out⟩
 ·go_wp2_with (first
   |((with_reducible refine gate_dst (N:=2) rfl ?_);refine box47_event rfl rfl rfl rfl ?_;intro ga w1 hga hA1 hb1;have HG1:=ak hga;have HA1:=ak hA1;have HB1:=ak hb1;clear hga hA1 hb1)
   |((with_reducible refine gate_dst (N:=3) rfl ?_);refine setBox_event rfl rfl rfl rfl ?_;intro gb w2 hgb hA2 hb2;have HG2:=ak hgb;have HA2:=ak hA2;have HB2:=ak hb2;clear hgb hA2 hb2)
   |((with_reducible refine gate_dst (N:=4) rfl ?_);refine setAlloc_event rfl rfl rfl ?_;intro gc w3 hgc hA3 hb3;have HG3:=ak hgc;have HA3:=ak hA3;have HB3:=ak hb3;clear hgc hA3 hb3;
     have H0:Aside0 (AW w w3 x A3 c3 A7 c7 ga gb gc S):=(⟨by
      have b12:=below_step HB1.out HB2.out;have a2:=at47_below HA1.out HB2.out;have l2:=Nat.le_trans HB1.out.size HG2.out;have h1:ga<w1.heap.size:=blk_lt HA1.out;have h2:gb<w2.heap.size:=blk_lt HA2.out;exact ⟨below_step b12 HB3.out,at47_below a2 HB3.out,at_below HA2.out HB3.out,HA3.out,by have:=HG2.out;omega,by have:=HG3.out;omega,HG1.out,l2,Nat.le_trans b12.size HG3.out⟩⟩);
     obtain ⟨u0,u1,u2,u3,u4,u5,u6,u7⟩:=cells47_of H0.out.xa;obtain ⟨h0,h1,h2,h3,h4,h5,h6,h7,f0,f1,f2,f3,f4,f5,f6,f7⟩:=cells8 H0.out.sb)
   |(go_at_call 35;refine (idle_calls x A3 c3 A7 c7 S HS.out _ (HX.out.below H0.out.below)).mono ?_;rw [HT.out];rintro e w4 ⟨rfl,hb4⟩;have H1:=ak (H0.out.next hb4);clear hb4)
   |(refine setLoad_event rfl rfl rfl rfl H1.out.sb ?_)
   |(refine setStore_event rfl rfl rfl rfl rfl H1.out.sc ?_;intro w5 hA5 hg5;have HA5:=ak hA5;have HB5:=ak (H1.out.below.grown hg5 H1.out.below.size (fun k hk=>by cases hk;exact H1.out.lc));clear hA5 hg5))
  refine bodyPost_ret (results_cell_row rfl _ _ gc 64 (cellsV S) (0,0) _ rfl HA5.out Try.underlying64 rfl (by kernel_rfl)) rfl ?_;refine ⟨?_,HB5.out⟩;simp only [LiveT.ahead,HT.out];rfl
end Go.Proofs.Ytklknkfoafdgpaa.LiveAhead
