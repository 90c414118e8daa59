import Derived.Test.YtklknkfoafdgpaaLiveSettled
namespace Go.Proofs.Ytklknkfoafdgpaa.LiveCopied
set_option maxHeartbeats 8000000
set_option maxRecDepth 100000
open RowKit YtklknkfoafdgpaaW.PrintWords YtklknkfoafdgpaaW.PrintLast YtklknkfoafdgpaaW.PrintMore
open PLiveKnown LiveT LiveB LiveSet LiveAhead LiveEnd LiveSettled
set_option linter.unusedVariables false
set_option linter.unusedSimpArgs false
structure Fit47 (x:S47):Prop where
 args:x.f3.length*16≤140737488355328
 exits:x.f7.length*40≤140737488355328
 slots:∀ k,k<x.f7.length→(rd_T78 x.f7 k).f2.length*16≤140737488355328
def zero47:Array Value:= #[.int .i64 0,.int .i64 0,.int .i64 0,.slice none 0 0,.int .i64 0,.int .i64 0,.int .i64 0,.slice none 0 0]
def row47 (x:S47) (v3 v7:Value):Array Value:= #[.int .i64 x.f0,.int .i64 x.f1,.int .i64 x.f2,v3,.int .i64 x.f4,.int .i64 x.f5,.int .i64 x.f6,v7]
structure CW (w W:World) (g1 gc:Nat) (x:S47) (v3 v7:Value) (ys:List S78):Prop where
 below:Below w.heap.size w W
 b1:W.heap[g1]? =some (.cells (row47 x v3 v7) 47 (0,0))
 bc:W.heap[gc]? =some (.cells zero47 47 (0,0))
 r3:Kd.R k82 82 W w.heap.size (fun k=>v3.ownBlock=some k) v3 x.f3
 n3:∀ k,v3.ownBlock=some k→k≠g1∧k≠gc
 r7:Kd.R k78 78 W w.heap.size (fun k=>k≠g1∧k≠gc∧some k≠v3.ownBlock) v7 ys
 ne:g1≠gc
 l1:w.heap.size≤g1
 lc:w.heap.size≤gc
section
variable {w W W1 W2:World} {g1 gc:Nat} {x:S47} {v3 v7 v8:Value} {ys ys1:List S78}
theorem CW.next (h:CW w W g1 gc x v3 v7 ys) (hb:Below W.heap.size W W1):CW w W1 g1 gc x v3 v7 ys:=
 ⟨below_step h.below hb,(hb.block g1 (blk_lt h.b1)).trans h.b1,(hb.block gc (blk_lt h.bc)).trans h.bc,Kd.R_below h.r3 hb,h.n3,Kd.R_below h.r7 hb,h.ne,h.l1,h.lc⟩
theorem CW.push (h:CW w W g1 gc x v3 v7 ys) (hR:Kd.R k78 78 W1 w.heap.size (fun k=>k≠g1∧k≠gc∧some k≠v3.ownBlock) v8 ys1) (hb:Below w.heap.size w W1) (hg:W.grownBy W1 v7.ownBlock):CW w (W1.setCell ⟨g1,7,none⟩ v8) g1 gc x v3 v8 ys1:=by
 have e1:some g1≠v7.ownBlock:=fun he=>(h.r7.1 g1 he.symm).1 rfl
 have ec:some gc≠v7.ownBlock:=fun he=>(h.r7.1 gc he.symm).2.1 rfl
 refine ⟨hb.setCell h.l1 _,blk_put (blk_grown h.b1 hg e1) 7 _ rfl,blk_far (blk_grown h.bc hg ec) (Ne.symm h.ne) _,?_,h.n3,Kd.R_far hR (fun k hk=>hk.1) _,h.ne,h.l1,h.lc⟩;exact Kd.R_far (Kd.R_grown h.r3 hg (fun k hk he=>(h.r7.1 k he.symm).2.2 hk.symm)) (fun k hk=>(h.n3 k hk).1) _
end
theorem put47_blk {w:World} {g:Nat} {cs:Array Value} (h:w.heap[g]? =some (.cells cs 47 (0,0))) (hc:cs=zero47) (b0 b1 b2 b3 b4 b5 b6 b7:Value):((((((((w.setCell ⟨g,0,none⟩ b0).setCell ⟨g,1,none⟩ b1).setCell ⟨g,2,none⟩ b2).setCell ⟨g,3,none⟩ b3).setCell ⟨g,4,none⟩ b4).setCell ⟨g,5,none⟩ b5).setCell ⟨g,6,none⟩ b6).setCell ⟨g,7,none⟩ b7).heap[g]? =some (.cells #[b0,b1,b2,b3,b4,b5,b6,b7] 47 (0,0)):=by
 subst hc;exact blk_put (blk_set (blk_set (blk_set (blk_set (blk_set (blk_set (blk_set h 0 _) 1 _) 2 _) 3 _) 4 _) 5 _) 6 _) 7 _ (chain8 _ _ _ _ _ _ _ _ _ _ _ _ _ _ _ _)
theorem k82_KM {W:World} {x:S82} {cs:List Value} (base:Nat) (ok:Nat→Prop) (h:k82.K W x cs):k82.M W base ok x cs:=by
 rw [k82_open h];exact k82_mkM W base ok x
theorem box47_zero_event {ops:Array Oper} {rest:List Oper} {o:Oper} {a:Act} {Q:Exit→Act→World→Prop} {W:World} (hgd:o.guard=none) {N:Tmp} (_hd:o.dst=some N) (ho:o.op= .alloc 47)
  (h:∀ g w1,W.heap.size≤g→w1.heap[g]? =some (.cells zero47 47 (0,0))→Below W.heap.size W w1→wpList Try.prog ops Q rest (a.put o.dst (.pointer (some ⟨g,0,none⟩))) w1):wpList Try.prog ops Q (o::rest) a W:=by
 refine box_event hgd (N:=N) _hd (cs:=zero47) (t:=47) ?_ (fun g hg w1 h1 h2=>h g w1 (Nat.le_of_eq hg.symm) h1 h2);simp only [execOp,ho,zero47];go_simp
 first |done |rfl
theorem copied_calls (x:S47) (A3:Option Addr) (c3:Nat) (A7:Option Addr) (c7:Nat) (w:World) (h:RIn w x A3 c3 A7 c7) (hf:Fit47 x) :
  Calls Try.prog 36 #[v47 x A3 c3 A7 c7] w fun e w'=>∃ v3 v7,e= .returned (.agg (row47 x v3 v7))∧Kd.R k82 82 w' w.heap.size (fun _=>True) v3 x.f3∧Kd.R k78 78 w' w.heap.size (fun k=>some k≠v3.ownBlock) v7 x.f7∧Below w.heap.size w w':=by
 have HX:=ak h;have HF:=ak hf;have hl3:=hf.args;clear h hf
 go_enter Try.func36,Try.ntmps36
 go_wp2_with (first
  |((with_reducible refine gate_dst (N:=1) rfl ?_);refine box47_event rfl rfl rfl rfl ?_;intro g1 w1 hg1 hA1 hb1;have HG1:=ak hg1;have HA1:=ak hA1;have HB1:=ak hb1;clear hg1 hA1 hb1)
  |((with_reducible refine gate_dst (N:=2) rfl ?_);refine box47_zero_event rfl rfl rfl ?_;intro gc w2 hgc hA2 hb2;have HG2:=ak hgc;have HA2:=ak hA2;have HA1b:=ak (at47_below HA1.out hb2);have HB2:=ak (below_step HB1.out hb2);obtain ⟨u0,u1,u2,u3,u4,u5,u6,u7⟩:=cells47_of HA1b.out;clear hgc hA2 hb2)
  |(at_builtin;refine Kd.R_append_rows k82 (w0:=w) w.heap.size rfl (.const (.slice none 0 0)) (.tmp 7) 44 82 (.agg #[(.int .i64 0),(.int .i64 0)]) 16 rfl Try.underlying44 info82 rfl (by decide) (by omega) (.slice none 0 0) ([]:List S82) x.f3 _ _ _ (fun k=>k≠g1∧k≠gc) (fun _=>False) rfl rfl (Kd.R_nil _ _ _ _ _) (Kd.C_below HX.out.r3 HB2.out) (fun _ _ h=>k82_KM _ _ h) (fun _ h=>h.elim) (fun k hk=>⟨Nat.ne_of_gt (Nat.lt_of_lt_of_le (blk_lt HA1b.out) hk),Nat.ne_of_gt (Nat.lt_of_lt_of_le (blk_lt HA2.out) hk)⟩) HB2.out HB2.out.size (by simp;omega) ?_;intro v3 w3 ho hb hg hat;rw [List.nil_append] at ho;obtain ⟨Av,cv,rfl⟩:=Kd.R_slice ho;have HO3:=ak ho;have HB3:=ak hb;have HG3:=ak hg;have u3':=((hg.block g1 (blk_lt HA1b.out) (by simp [Value.ownBlock]))).trans HA1b.out;have t3:w3.cell? ⟨g1,3,none⟩=some (.slice A3 x.f3.length c3):=(qk u3' 3);have t7:w3.cell? ⟨g1,7,none⟩=some (.slice A7 x.f7.length c7):=(qk u3' 7);have ft3:=blk_frozen u3' 3;have ft7:=blk_frozen u3' 7;have HA13:=ak u3';clear u3' ho hb hg hat))
 have H0:Aside0 (CW w ((w3.setCell ⟨g1,3,none⟩ (.slice Av x.f3.length cv)).setCell ⟨g1,7,none⟩ (.slice none 0 0)) g1 gc x (.slice Av x.f3.length cv) (.slice none 0 0) (x.f7.take 0)):=⟨by
  have n1:g1<w2.heap.size:=blk_lt HA1b.out;have nc:gc<w2.heap.size:=blk_lt HA2.out;have hne:g1≠gc:=by have:=blk_lt HA1.out;have:=HG2.out;omega
  have hn3:∀ k,(Value.slice Av x.f3.length cv).ownBlock=some k→k≠g1∧k≠gc:=fun k hk=>HO3.out.1 k hk
  have hc3:w3.heap[gc]? =some (.cells zero47 47 (0,0)):=(HG3.out.block gc nc (by simp [Value.ownBlock])).trans HA2.out;refine ⟨(HB3.out.setCell (p:=⟨g1,3,none⟩) HG1.out _).setCell (p:=⟨g1,7,none⟩) HG1.out _,blk_put (blk_put HA13.out 3 _ rfl) 7 _ rfl,blk_far (blk_far hc3 (Ne.symm hne) _) (Ne.symm hne) _,?_,hn3,?_,hne,HG1.out,Nat.le_trans HB1.out.size HG2.out⟩
  ·exact Kd.R_far (Kd.R_far (Kd.R_reok rfl HO3.out (fun b hb=>hb)) (fun k hk=>(hn3 k hk).1) _) (fun k hk=>(hn3 k hk).1) _
  ·exact Kd.R_nil _ _ _ _ _⟩
 clear HG1 HA1 HB1 HG2 HA2 HA1b HB2 u0 u1 u2 u3 u4 u5 u6 u7 HO3 HB3 HG3 t3 t7 ft3 ft7 HA13;have hmx7:x.f7.length≤9223372036854775807:=Kd.C_max HX.out.r7
 go_loopw [15] (fun v15 wi=>∃ (j:Nat) (v7:Value),j≤x.f7.length∧v15= .int .i64 j∧Aside0 (CW w wi g1 gc x (.slice Av x.f3.length cv) v7 (x.f7.take j))) (fun v15 _=>x.f7.length-(intOf v15).toNat)
 case atStart=>exact ⟨0,_,by omega,rfl,H0⟩
 case round =>
  clear H0;obtain ⟨j,v7,hj,rfl,HS⟩:=hrel;obtain ⟨A7',c7',hv7⟩:=Kd.R_slice HS.out.r7;subst hv7;have hyl:(x.f7.take j).length=j:=by rw [List.length_take];omega
  by_cases hlt:j<x.f7.length
  ·have hst:x.f7.take (j+1)=x.f7.take j++[rd_T78 x.f7 j]:=by
    have hg:rd_T78 x.f7 j=x.f7[j]:=by simp [rd_T78,List.getD_eq_getElem?_getD,hlt]
    rw [hg,List.take_add_one,List.getElem?_eq_getElem hlt];rfl
   have hsl:=HF.out.slots j hlt;have hex:=HF.out.exits;generalize x.f7.take j=ys at *;have HST:=ak hst;obtain ⟨ad,A2,c2,e1,hx0,hx1,hx2,hC2⟩:=rd_shape HX.out.r7 HS.out.below j hlt;subst e1;have HC2:=ak hC2;generalize rd_T78 x.f7 j=p at *;clear hst hC2;have hlim:(ys.length+1)*40≤140737488355328:=by omega
   have HLIM:=ak hlim;clear hyl hlim;have N0:Aside0 (g1<wr.heap.size∧gc<wr.heap.size):=⟨blk_lt HS.out.b1,blk_lt HS.out.bc⟩
   go_wp2_with (first
    |(refine alloc78_event rfl rfl rfl ?_;intro g8 w8 hg8 hA8 hb8;have HG8:=ak hg8;have HA8:=ak hA8;have HB8:=ak (below_set (v:= .slice A2 p.f2.length c2) (j:=2) (below_set (v:= .int .i64 p.f1) (j:=1) (below_set (v:= .int .i64 p.f0) (j:=0) hb8 hg8) hg8) hg8);have HA8b:=ak (blk_put (blk_put (blk_put hA8 0 (.int .i64 p.f0) rfl) 1 (.int .i64 p.f1) rfl) 2 (.slice A2 p.f2.length c2) rfl);have i0:=(blk_cell hA8 0).trans (rfl: #[Value.int .i64 0,.int .i64 0,.slice none 0 0][0]? =some (.int .i64 0));have i1:=(blk_cell hA8 1).trans (rfl: #[Value.int .i64 0,.int .i64 0,.slice none 0 0][1]? =some (.int .i64 0));have i2:=(blk_cell hA8 2).trans (rfl: #[Value.int .i64 0,.int .i64 0,.slice none 0 0][2]? =some (.slice none 0 0));have j0:=blk_frozen hA8 0;have j1:=blk_frozen hA8 1;have j2:=blk_frozen hA8 2;replace hx0:=pw_cell_below hb8 hx0;replace hx1:=pw_cell_below hb8 hx1;replace hx2:=pw_cell_below hb8 hx2;clear hg8 hA8 hb8)
    |((with_reducible refine gate_dst (N:=21) rfl ?_);at_builtin;refine Kd.R_append_rows k82 (w0:=wr) wr.heap.size rfl (.const (.slice none 0 0)) (.tmp 20) 44 82 (.agg #[(.int .i64 0),(.int .i64 0)]) 16 rfl Try.underlying44 info82 rfl (by decide) (by omega) (.slice none 0 0) ([]:List S82) p.f2 _ _ _ (fun k=>k≠g8) (fun _=>False) rfl rfl (Kd.R_nil _ _ _ _ _) (Kd.C_below HC2.out (below_step HS.out.below HB8.out)) (fun _ _ h=>k82_KM _ _ h) (fun _ h=>h.elim) (fun k hk=>Nat.ne_of_gt (Nat.lt_of_lt_of_le (blk_lt HA8b.out) hk)) HB8.out HB8.out.size (by simp;omega) ?_;intro v2 w9 ho hb hg hat;rw [List.nil_append] at ho;obtain ⟨Ab,cb,rfl⟩:=Kd.R_slice ho;have HO9:=ak ho;have HB9:=ak hb;have HA9:=ak ((hg.block g8 (blk_lt HA8b.out) (by simp [Value.ownBlock])).trans HA8b.out);have HS9:=ak (HS.out.next hb);clear i0 i1 i2 j0 j1 j2;have i0:w9.cell? ⟨g8,0,none⟩=some (.int .i64 p.f0):=(qj HA9 0);have i1:w9.cell? ⟨g8,1,none⟩=some (.int .i64 p.f1):=(qj HA9 1);have i2:w9.cell? ⟨g8,2,none⟩=some (.slice A2 p.f2.length c2):=(qj HA9 2);have j2:=ql HA9 2;have t7:w9.cell? ⟨g1,7,none⟩=some (.slice A7' ys.length c7'):=((blk_cell HS9.out.b1 7).trans rfl);have hne8:¬ g1=g8:=(by have:=N0.out.1;have:=HG8.out;omega);clear ho hb hg hat)
    |((with_reducible refine gate_dst (N:=27) rfl ?_);at_builtin;have BW:=ak (below_set (v:= .slice Ab p.f2.length cb) (j:=2) HB9.out HG8.out);have SW:=ak (HS.out.next BW.out);refine Kd.R_append k78 (w0:=w) w.heap.size rfl (.tmp 24) (.tmp 26) 45 78 (.agg #[(.int .i64 0),(.int .i64 0),(.slice none 0 0)]) 40 rfl Try.underlying45 info78 rfl (by decide) (by omega) (.slice A7' ys.length c7') ys p [.int .i64 p.f0,.int .i64 p.f1,.slice Ab p.f2.length cb] (fun k=>k≠g1∧k≠gc∧some k≠(Value.slice Av x.f3.length cv).ownBlock) (fun k=>wr.heap.size≤k) rfl (show _=Value.slice (some ⟨(w9.setCell ⟨g8,2,none⟩ (.slice Ab p.f2.length cb)).heap.size,0,none⟩) 1 1 by rw [show (w9.setCell ⟨g8,2,none⟩ (.slice Ab p.f2.length cb)).heap.size=w9.heap.size by simp];rfl) ?aP ?aK ?aF SW.out.r7 SW.out.below SW.out.below.size HLIM.out ?_;(case aP=>exact k78_mkM _ _ _ p (Kd.R_lower (Kd.R_reok rfl (Kd.R_far HO9.out (fun k hk=>hk) _) (fun b hb=>Kd.R_base HO9.out b hb)) HS.out.below.size));(case aK=>intro k hk;have hh:=N0.out;exact ⟨⟨by omega,by omega,fun he=>by have:=Kd.R_lt HS.out.r3 k he.symm;omega⟩,fun he=>by have:=Kd.R_lt HS.out.r7 k he.symm;omega⟩);(case aF=>intro k hk;have hh:=N0.out;have h2:=BW.out.size;exact ⟨by omega,by omega,fun he=>by have:=Kd.R_lt HS.out.r3 k he.symm;omega⟩);intro v10 w10 ho hb hg hat;have HP:=ak (SW.out.push ho hb hg);obtain ⟨Ac,cc,rfl⟩:=Kd.R_slice ho;have hb1:=blk_grown SW.out.b1 hg (fun he=>(SW.out.r7.1 g1 he.symm).1 rfl);have t7b:w10.cell? ⟨g1,7,none⟩=some (.slice A7' ys.length c7'):=(qk hb1 7);have f7b:=blk_frozen hb1 7;clear hb1 ho hb hg hat i0 i1 i2 j2 t7))
   go_roundw
   case rel=>exact ⟨j+1,_,by omega,by go_num,⟨by rw [HST.out];have hh:=HP.out;rw [List.length_append,List.length_singleton] at hh;exact hh⟩⟩
   case measure=>simp [intOf];omega
  ·obtain rfl:j=x.f7.length:=by omega
   rw [List.take_length] at HS;have t0:wr.cell? ⟨g1,0,none⟩=some (.int .i64 x.f0):=(blk_cell HS.out.b1 0).trans rfl;have t1:wr.cell? ⟨g1,1,none⟩=some (.int .i64 x.f1):=(blk_cell HS.out.b1 1).trans rfl;have t2:wr.cell? ⟨g1,2,none⟩=some (.int .i64 x.f2):=(blk_cell HS.out.b1 2).trans rfl;have t3:wr.cell? ⟨g1,3,none⟩=some (.slice Av x.f3.length cv):=(blk_cell HS.out.b1 3).trans rfl;have t4:wr.cell? ⟨g1,4,none⟩=some (.int .i64 x.f4):=(blk_cell HS.out.b1 4).trans rfl;have t5:wr.cell? ⟨g1,5,none⟩=some (.int .i64 x.f5):=(blk_cell HS.out.b1 5).trans rfl
   have t6:wr.cell? ⟨g1,6,none⟩=some (.int .i64 x.f6):=(blk_cell HS.out.b1 6).trans rfl;have t7:wr.cell? ⟨g1,7,none⟩=some (.slice A7' x.f7.length c7'):=(blk_cell HS.out.b1 7).trans rfl;have z0:wr.cell? ⟨gc,0,none⟩=some (.int .i64 0):=(blk_cell HS.out.bc 0).trans rfl;have z1:wr.cell? ⟨gc,1,none⟩=some (.int .i64 0):=(blk_cell HS.out.bc 1).trans rfl;have z2:wr.cell? ⟨gc,2,none⟩=some (.int .i64 0):=(blk_cell HS.out.bc 2).trans rfl;have z3:wr.cell? ⟨gc,3,none⟩=some (.slice none 0 0):=(blk_cell HS.out.bc 3).trans rfl
   have z4:wr.cell? ⟨gc,4,none⟩=some (.int .i64 0):=(blk_cell HS.out.bc 4).trans rfl;have z5:wr.cell? ⟨gc,5,none⟩=some (.int .i64 0):=(blk_cell HS.out.bc 5).trans rfl;have z6:wr.cell? ⟨gc,6,none⟩=some (.int .i64 0):=(blk_cell HS.out.bc 6).trans rfl;have z7:wr.cell? ⟨gc,7,none⟩=some (.slice none 0 0):=(blk_cell HS.out.bc 7).trans rfl;have f0:=blk_frozen HS.out.bc 0;have f1:=blk_frozen HS.out.bc 1;have f2:=blk_frozen HS.out.bc 2;have f3:=blk_frozen HS.out.bc 3;have f4:=blk_frozen HS.out.bc 4;have f5:=blk_frozen HS.out.bc 5
   have f6:=blk_frozen HS.out.bc 6;have f7:=blk_frozen HS.out.bc 7
   go_wp2_with fail
   refine bodyPost_ret (results_cell_row rfl _ _ gc 47 _ (0,0) _ rfl (put47_blk HS.out.bc rfl _ _ _ _ _ _ _ _) Try.underlying47 rfl (by kernel_rfl)) rfl ?_;have hfar:∀ k,(Value.slice Av x.f3.length cv).ownBlock=some k→k≠gc:=fun k hk=>(HS.out.n3 k hk).2
   refine ⟨_,_,rfl,Kd.R_mono (?_:Kd.R k82 82 _ w.heap.size (fun k=>(Value.slice Av x.f3.length cv).ownBlock=some k) _ _) (fun _ _=>trivial),Kd.R_mono (?_:Kd.R k78 78 _ w.heap.size (fun k=>k≠g1∧k≠gc∧some k≠(Value.slice Av x.f3.length cv).ownBlock) _ _) (fun _ hk=>hk.2.2),?_⟩
   ·exact Kd.R_far (Kd.R_far (Kd.R_far (Kd.R_far (Kd.R_far (Kd.R_far (Kd.R_far (Kd.R_far HS.out.r3 hfar _) hfar _) hfar _) hfar _) hfar _) hfar _) hfar _) hfar _
   ·exact Kd.R_far (Kd.R_far (Kd.R_far (Kd.R_far (Kd.R_far (Kd.R_far (Kd.R_far (Kd.R_far HS.out.r7 (fun _ hk=>hk.2.1) _) (fun _ hk=>hk.2.1) _) (fun _ hk=>hk.2.1) _) (fun _ hk=>hk.2.1) _) (fun _ hk=>hk.2.1) _) (fun _ hk=>hk.2.1) _) (fun _ hk=>hk.2.1) _) (fun _ hk=>hk.2.1) _
   ·exact below_set (below_set (below_set (below_set (below_set (below_set (below_set (below_set HS.out.below HS.out.lc) HS.out.lc) HS.out.lc) HS.out.lc) HS.out.lc) HS.out.lc) HS.out.lc) HS.out.lc
end Go.Proofs.Ytklknkfoafdgpaa.LiveCopied
namespace Go.Proofs.Ytklknkfoafdgpaa.LiveAft
set_option maxHeartbeats 8000000
set_option maxRecDepth 100000
open RowKit YtklknkfoafdgpaaW.PrintWords YtklknkfoafdgpaaW.PrintLast YtklknkfoafdgpaaW.PrintMore
open PLiveKnown LiveT LiveB LiveSet LiveAhead LiveEnd LiveInv LiveSettled
set_option linter.unusedVariables false
set_option linter.unusedSimpArgs false
def regsTo (S:RS) (k:Nat):List Int:=((List.range k).filter fun (r:Nat)=>S (r:Int)).map fun (r:Nat)=>(r:Int)
theorem regsTo_succ (S:RS) (k:Nat):regsTo S (k+1)=regsTo S k++(if S (k:Int)=true then [(k:Int)] else []):=by
 simp only [regsTo,List.range_succ,List.filter_append,List.map_append,List.filter_cons,List.filter_nil]
 split<;>simp_all
theorem regsTo_length (S:RS) (k:Nat):(regsTo S k).length≤k:=by
 simp only [regsTo,List.length_map];exact Nat.le_trans (List.length_filter_le _ _) (by simp)
def behind (bs:List S43) (V:Nat→RS) (b i:Nat):RS:=back (((rd_T43 bs b).f1.drop (i+1)).map iOf) (endd bs.length V (rd_T43 bs b).f2)
def after (bs:List S43) (V:Nat→RS) (block ins:Int):List Int:=
 if 0≤block∧block<bs.length∧0≤ins∧ins<(rd_T43 bs block).f1.length then regsTo (behind bs V block.toNat ins.toNat) 512 else []
theorem infoI:(Try.prog.info? 3).map (fun i=>(i.zero,i.size,i.bytes))=some (some (.int .i64 0),1,8):=by kernel_rfl
structure VW (w W:World) (g:Nat) (S:RS):Prop where
 below:Below w.heap.size w W
 at_:At W g S
 lt:w.heap.size≤g
theorem VW.put {w W W1:World} {g:Nat} {S T:RS} (h:VW w W g S) (hA:At W1 g T) (hg:W.grownBy W1 (some g)):VW w W1 g T:=
 ⟨h.below.grown hg h.below.size (fun k hk=>by cases hk;exact h.lt),hA,h.lt⟩
theorem VW.next {w W W1:World} {g:Nat} {S:RS} (h:VW w W g S) (hb:Below W.heap.size W W1):VW w W1 g S:=⟨below_step h.below hb,at_below h.at_ hb,h.lt⟩
theorem after_main (fn rg:Int) (Ab:Option Addr) (cb:Nat) (bs:List S43) (V:Nat→RS) (b i:Nat) (w:World) (hC:Kd.C k43 w Ab bs.length bs) (hn:bs.length*64≤281474976710656) (hV:Lfp (codeOf bs) V) (hb:b<bs.length) (hi:i<(rd_T43 bs b).f1.length) :
  Calls Try.prog 11 #[.agg #[.int .i64 fn,.int .i64 rg,.slice Ab bs.length cb],.int .i64 b,.int .i64 i] w fun e w'=>∃ v,e= .returned v∧Kd.R (Kd.int .i64) 3 w' w.heap.size (fun _=>True) v (regsTo (behind bs V b i) 512)∧Below w.heap.size w w':=by
 have HC:=ak hC;have HN:=ak hn;have HV:=ak hV;obtain ⟨ad,A1,c1,A2,c2,e,hx0,hx1,hx2,l1,hg1,l2,hg2⟩:=rd_block hC (Below.refl _ w) b hb;subst e;have HX1:=ak hx1;have HI1:=ak hg1;have hmx:(rd_T43 bs b).f1.length≤9223372036854775807:=Kd.C_max hg1;have hb0:decide ((b:Int)<0)=false:=decide_eq_false (by omega);have hi0:decide ((i:Int)<0)=false:=decide_eq_false (by omega);have hb1:decide ((bs.length:Int)≤b)=false:=decide_eq_false (by omega);have hi1:decide (((rd_T43 bs b).f1.length:Int)≤i)=false:=decide_eq_false (by omega)
 have hbi:(b:Int)<bs.length:=by omega
 obtain ⟨E,hE⟩:∃ E,endd bs.length V (rd_T43 bs b).f2=E:=⟨_,rfl⟩
 have HE:Aside0 (∀ V1,Lfp (codeOf bs) V1→endd bs.length V1 (rd_T43 bs b).f2=E):=⟨fun V1 h1=>by rw [←hE];exact endd_congr _ (fun n hn=>h1.unique hV (by rw [codeOf_length];exact hn))⟩
 have HER:Aside0 (Regs E):=⟨by rw [←hE];exact endd_regs _ (fun n hn=>hV.regs (by rw [codeOf_length];exact hn))⟩
 have hB:behind bs V b i=back (((rd_T43 bs b).f1.drop (i+1)).map iOf) E:=by rw [←hE];rfl
 rw [hB];have HB0:=ak hb;clear hC hn hV hx0 hx1 hx2 l1 l2 hg1 hg2 hE hB hb;have hE2:Aside0 (∀ m,Regs (back (((rd_T43 bs b).f1.drop m).map iOf) E)):=⟨fun m=>back_regs _ HER.out⟩
 have HRI:Aside0 (∀ m,m<(rd_T43 bs b).f1.length→∃ ad3 A3 c3 A7 c7,A1=some ad3∧InsAt w (ad3.add (m*8)) (rd_T47 (rd_T43 bs b).f1 m) A3 c3 A7 c7∧RIn w (rd_T47 (rd_T43 bs b).f1 m) A3 c3 A7 c7):=⟨fun m hm=>rd_ins HI1.out m hm⟩
 have HBD:Aside0 (∀ m,m<(rd_T43 bs b).f1.length→back (((rd_T43 bs b).f1.drop m).map iOf) E=LiveT.ahead (iOf (rd_T47 (rd_T43 bs b).f1 m)) (back (((rd_T43 bs b).f1.drop (m+1)).map iOf) E)):=⟨fun m hm=>back_drop _ E m hm⟩
 have HX:=ak HX1.out;generalize hins:(rd_T43 bs b).f1=ins at *;clear hins HI1 HX1;have ux:=HX.out
 go_enter Try.func11,Try.ntmps11
 go_wp2_with (first
  |((with_reducible refine gate_dst (N:=3) rfl ?_);refine box_event ?hg (N:=3) ?hd (cs:= #[.int .i64 fn,.int .i64 rg,.slice (some ad) bs.length cb]) (t:=24) ?hr ?_;(case hd=>rfl);(case hg=>rfl);(case hr=>first |(go_simp;done) |(go_simp;rfl));intro g1 hg1 w1 hA1 hb1;have HG1:Aside0 (w.heap.size≤g1):=(⟨Nat.le_of_eq hg1.symm⟩);have HA1:=ak hA1;have HB1:=ak hb1;have u0:w1.cell? ⟨g1,0,none⟩=some (.int .i64 fn):=(qj HA1 0);have u1:w1.cell? ⟨g1,1,none⟩=some (.int .i64 rg):=(qj HA1 1);have u2:w1.cell? ⟨g1,2,none⟩=some (.slice (some ad) bs.length cb):=(qj HA1 2);replace ux:=pw_cell_below hb1 ux;clear hg1 hA1 hb1)
  |(go_at_call 28;refine (settled_calls fn rg (some ad) cb bs _ (Kd.C_below HC.out HB1.out) HN.out).mono ?_;rintro e w2 ⟨gf,gw,V1,rfl,hb2,hfl,hlf⟩;have HB2:=ak (below_step HB1.out hb2);have HFL:=ak hfl;have HLF:=ak hlf;replace u2:=pw_cell_below hb2 u2;replace ux:=pw_cell_below hb2 ux;clear hb2 hfl hlf)
  |(go_at_call 29;refine (end_calls gf fn rg (some ad) cb gw bs V1 b HB0.out _ HFL.out).mono ?_;rw [HE.out V1 HLF.out];rintro e w5 ⟨rfl,hb5⟩;have HB5:=ak (below_step HB2.out hb5);replace u2:=pw_cell_below hb5 u2;replace ux:=pw_cell_below hb5 ux;clear hb5)
  |((with_reducible refine gate_dst (N:=7) rfl ?_);refine setAlloc_event rfl rfl rfl ?_;intro gs w6 hgs hA6 hb6;have HV6:Aside0 (VW w5 w6 gs none'):=(⟨⟨hb6,hA6,hgs⟩⟩);have U2:=ak u2;have UX:=ak ux;clear hgs hA6 hb6 u2 ux)
  |(refine setStore_event rfl rfl rfl rfl rfl HV6.out.at_ ?_;intro w7 hA7 hg7;have HV7:Aside0 (VW w5 w7 gs E):=(⟨HV6.out.put hA7 hg7⟩);have u2:=pw_cell_below HV7.out.below U2.out;have ux:=pw_cell_below HV7.out.below UX.out;clear hA7 hg7))
 have H0:Aside0 (VW w5 w7 gs (back ((ins.drop ins.length).map iOf) E)):=⟨by rw [List.drop_length];exact HV7.out⟩
 clear u0 u1 u2 ux HV6 HV7 HA1 HB1 HB2 HFL HLF HG1 hb0 hi0 hb1 hi1;have HI:=ak hi;clear hi
 (try (rename_i hq1 hq2;clear hq1 hq2))
 go_loopw [8] (fun v8 wi=>∃ (m:Nat) (i1:Int),i+1≤m∧m≤ins.length∧i1=(m:Int)-1∧v8= .int .i64 i1∧Aside0 (VW w5 wi gs (back ((ins.drop m).map iOf) E))) (fun v8 _=>(intOf v8+1).toNat)
 case atStart=>exact ⟨ins.length,(ins.length:Int)-1,by omega,by omega,rfl,by go_num,H0⟩
 case round =>
  clear H0;obtain ⟨m,i1,hm1,hm,hi1',rfl,HA⟩:=hrel;have HM1:=ak hm1;have HM:=ak hm
  by_cases h0:m=i+1
  ·subst h0;obtain rfl:i1=(i:Int):=by omega
   have hreg:=hE2.out (i+1);obtain ⟨S,hS⟩:∃ S,back ((ins.drop (i+1)).map iOf) E=S:=⟨_,rfl⟩
   rw [hS] at hreg HA;have HSE:=ak hS;clear hS;have HREG:=ak hreg;clear hreg hm1 hm hi1';have hgt:decide ((i:Int)<i)=false:=decide_eq_false (by omega)
   go_wp2_with fail
   have HR0:Aside0 (Kd.R (Kd.int .i64) 3 wr w5.heap.size (fun k=>k≠gs) (.slice none 0 0) (regsTo S 0)):=⟨Kd.R_nil _ _ _ _ _⟩
   go_loopw [9,63] (fun v9 v63 wi=>∃ (k:Nat),k≤512∧v63= .int .i64 k∧Aside0 (VW w5 wi gs S)∧Aside0 (Kd.R (Kd.int .i64) 3 wi w5.heap.size (fun k=>k≠gs) v9 (regsTo S k))) (fun _ v63 _=>512-(intOf v63).toNat)
   case atStart=>exact ⟨0,by omega,rfl,HA,HR0⟩
   case round =>
    clear HA HR0;obtain ⟨k,hk,rfl,HA,HR⟩:=hrel
    by_cases hlt:k<512
    ·obtain ⟨t,ht⟩:∃ t,S (k:Int)=t:=⟨_,rfl⟩
     have HT:=ak ht;have HSU:=ak (regsTo_succ S k);have hlen:=ak (regsTo_length S k);clear ht;obtain ⟨s0,s1,s2,s3,s4,s5,s6,s7,f0,f1,f2,f3,f4,f5,f6,f7⟩:=cells8 HA.out.at_;clear f0 f1 f2 f3 f4 f5 f6 f7;cases t
     ·go_wp2_with (first
       |(go_at_call 31;refine (has_calls S HREG.out k _).mono ?_;rw [HT.out];rintro e w8 ⟨rfl,hb8⟩;have HA8:=ak (HA.out.next hb8);have HR8:=ak (Kd.R_below HR.out hb8);clear hb8))
      go_roundw
      case rel=>exact ⟨k+1,by omega,by go_num,HA8,⟨by rw [HSU.out,if_neg (by rw [HT.out];decide),List.append_nil];exact HR8.out⟩⟩
      case measure=>simp [intOf];omega
     ·go_wp2_with (first
       |(go_at_call 31;refine (has_calls S HREG.out k _).mono ?_;rw [HT.out];rintro e w8 ⟨rfl,hb8⟩;have HA8:=ak (HA.out.next hb8);have HR8:=ak (Kd.R_below HR.out hb8);clear hb8)
       |(at_builtin;refine Kd.R_append (Kd.int .i64) (w0:=w5) w5.heap.size rfl (.tmp 69) (.tmp 71) 25 3 (.int .i64 0) 8 rfl Try.underlying25 infoI rfl (by decide) (by omega) _ (regsTo S k) (k:Int) [.int .i64 k] (fun k=>k≠gs) (fun _=>False) rfl rfl rfl (fun _ hk=>hk.elim) (fun k hk=>Nat.ne_of_gt (Nat.lt_of_lt_of_le (blk_lt HA8.out.at_) hk)) HR8.out HA8.out.below HA8.out.below.size (by have:=hlen.out;omega) ?_;intro v9 w9 ho hb hg hat;have HR9:=ak ho;have HA9:Aside0 (VW w5 w9 gs S):=(⟨⟨hb,at_grown HA8.out.at_ hg (fun he=>HR8.out.1 gs he.symm rfl),HA8.out.lt⟩⟩);clear ho hb hg hat))
      go_roundw
      case rel=>exact ⟨k+1,by omega,by go_num,HA9,⟨by rw [HSU.out,if_pos HT.out];exact HR9.out⟩⟩
      case measure=>simp [intOf];omega
    ·obtain rfl:k=512:=by omega
     go_wp2_with fail
     go_ret
     exact ⟨_,rfl,by rw [HSE.out];exact Kd.R_lower (Kd.R_mono HR.out (fun _ _=>trivial)) HB5.out.size,below_step HB5.out HA.out.below⟩
  ·obtain ⟨m,rfl⟩:∃ b,m=b+1:=⟨m-1,by omega⟩
   obtain rfl:i1=(m:Int):=by omega
   have hgt:decide ((m:Int)>i)=true:=decide_eq_true (by omega);have hgt2:decide ((i:Int)<m)=true:=decide_eq_true (by omega);have hgt3:(i:Int)<m:=by omega
   clear hi1' h0;obtain ⟨ad3,A3,c3,A7,c7,e3,hin,hrin⟩:=HRI.out m (by omega);subst e3;have hbe:=HBD.out m (by omega);have hreg:=hE2.out (m+1);generalize back ((ins.drop (m+1)).map iOf) E=S1 at hbe hreg HA;generalize rd_T47 ins m=x at hbe hin hrin;have HBE:=ak hbe;have HREG:=ak hreg;have hbw:=below_step HB5.out HA.out.below;clear hbe hreg;obtain ⟨q0,q1,q2,q3,q4,q5,q6,q7⟩:=hin.below hbw;have HRIN:=ak (hrin.below hbw);have u2:=pw_cell_below HA.out.below U2.out;have ux:=pw_cell_below HA.out.below UX.out
   obtain ⟨s0,s1,s2,s3,s4,s5,s6,s7,f0,f1,f2,f3,f4,f5,f6,f7⟩:=cells8 HA.out.at_;clear f0 f1 f2 f3 f4 f5 f6 f7 hin hrin hbw;have hmi:(m:Int)<ins.length:=by omega
   clear hm1 hm
   go_wp2_with fail
   go_region_with (go_at_call 30;refine (ahead_calls x A3 c3 A7 c7 S1 HREG.out _ (HRIN.out.below (below_drew (Below.refl _ wr)))).mono ?_;rintro e w8 ⟨rfl,hb0⟩;have hb:=below_step (below_drew (Below.refl _ wr)) hb0;obtain ⟨r0,r1,r2,r3,r4,r5,r6,r7,f0,f1,f2,f3,f4,f5,f6,f7⟩:=cells8 (at_below HA.out.at_ hb);have HB8:=ak hb;clear hb hb0;simp only [setV,cellsV,LiveSet.u64])
   all_goals (
    have HP:Aside0 (VW w5 (put8 w8 gs (LiveT.ahead (iOf x) S1)) gs (LiveT.ahead (iOf x) S1)):=(⟨(HA.out.next HB8.out).put (put8_at (at_below HA.out.at_ HB8.out) _) (put8_grown _ _ _)⟩)
    clear q0 q1 q2 q3 q4 q5 q6 q7 u2 ux s0 s1 s2 s3 s4 s5 s6 s7 r0 r1 r2 r3 r4 r5 r6 r7 f0 f1 f2 f3 f4 f5 f6 f7
    go_wp2_with fail
    go_roundw
    case rel =>
     refine ⟨_,_,_,_,_,_,_,_,_,_,_,_,_,_,_,_,_,?_,rfl⟩;exact ⟨m,(m:Int)-1,by omega,by have:=HM.out;omega,rfl,rfl,by rw [HBE.out];exact HP⟩
    case measure=>simp [intOf])
theorem after_none (fn rg:Int) (Ab:Option Addr) (cb:Nat) (bs:List S43) (block ins:Int) (w:World) (hC:Kd.C k43 w Ab bs.length bs) (hno:¬ (0≤block∧block<bs.length∧0≤ins∧ins<(rd_T43 bs block).f1.length)) :
  Calls Try.prog 11 #[.agg #[.int .i64 fn,.int .i64 rg,.slice Ab bs.length cb],.int .i64 block,.int .i64 ins] w fun e w'=>∃ v,e= .returned v∧Kd.R (Kd.int .i64) 3 w' w.heap.size (fun _=>True) v []∧Below w.heap.size w w':=by
 have HC:=ak hC;clear hC
 by_cases h0:block<0
 ·have hb0:decide (block<0)=true:=decide_eq_true h0;clear hno
  go_enter Try.func11,Try.ntmps11
  go_wp2_with (first
   |((with_reducible refine gate_dst (N:=3) rfl ?_);refine box_event ?hg (N:=3) ?hd (cs:= #[.int .i64 fn,.int .i64 rg,.slice Ab bs.length cb]) (t:=24) ?hr ?_;(case hd=>rfl);(case hg=>rfl);(case hr=>first |(go_simp;done) |(go_simp;rfl));intro g1 hg1 w1 hA1 hb1;have HB1:=ak hb1;have u2:w1.cell? ⟨g1,2,none⟩=some (.slice Ab bs.length cb):=(qk hA1 2);clear hg1 hA1 hb1))
  go_ret
  exact ⟨_,rfl,Kd.R_nil _ _ _ _ _,HB1.out⟩
 have hb0:decide (block<0)=false:=decide_eq_false h0
 by_cases h1:(bs.length:Int)≤block
 ·have hb1:decide ((bs.length:Int)≤block)=true:=decide_eq_true h1;clear hno
  go_enter Try.func11,Try.ntmps11
  go_wp2_with (first
   |((with_reducible refine gate_dst (N:=3) rfl ?_);refine box_event ?hg (N:=3) ?hd (cs:= #[.int .i64 fn,.int .i64 rg,.slice Ab bs.length cb]) (t:=24) ?hr ?_;(case hd=>rfl);(case hg=>rfl);(case hr=>first |(go_simp;done) |(go_simp;rfl));intro g1 hg1 w1 hA1 hb1;have HB1:=ak hb1;have u2:w1.cell? ⟨g1,2,none⟩=some (.slice Ab bs.length cb):=(qk hA1 2);clear hg1 hA1 hb1))
  go_ret
  exact ⟨_,rfl,Kd.R_nil _ _ _ _ _,HB1.out⟩
 obtain ⟨b,rfl⟩:∃ b:Nat,block=b:=⟨block.toNat,by omega⟩
 have hb1:decide ((bs.length:Int)≤b)=false:=decide_eq_false h1;have hbi:(b:Int)<bs.length:=by omega
 obtain ⟨ad,A1,c1,A2,c2,e,hx0,hx1,hx2,l1,hg1,l2,hg2⟩:=rd_block HC.out (Below.refl _ w) b (by omega);subst e;clear hx0 hx2 l1 hg1 l2 hg2
 by_cases h2:ins<0
 ·have hi0:decide (ins<0)=true:=decide_eq_true h2;clear hno
  go_enter Try.func11,Try.ntmps11
  go_wp2_with (first
   |((with_reducible refine gate_dst (N:=3) rfl ?_);refine box_event ?hg (N:=3) ?hd (cs:= #[.int .i64 fn,.int .i64 rg,.slice (some ad) bs.length cb]) (t:=24) ?hr ?_;(case hd=>rfl);(case hg=>rfl);(case hr=>first |(go_simp;done) |(go_simp;rfl));intro g1 hg1 w1 hA1 hb1;have HB1:=ak hb1;have u2:w1.cell? ⟨g1,2,none⟩=some (.slice (some ad) bs.length cb):=(qk hA1 2);replace hx1:=pw_cell_below hb1 hx1;clear hg1 hA1 hb1))
  go_ret
  exact ⟨_,rfl,Kd.R_nil _ _ _ _ _,HB1.out⟩
 have hi0:decide (ins<0)=false:=decide_eq_false h2;have h3:((rd_T43 bs b).f1.length:Int)≤ins:=by
  apply Classical.byContradiction;intro h3;exact hno ⟨by omega,by omega,by omega,by omega⟩
 have hi1:decide (((rd_T43 bs b).f1.length:Int)≤ins)=true:=decide_eq_true h3;clear hno
 go_enter Try.func11,Try.ntmps11
 go_wp2_with (first
  |((with_reducible refine gate_dst (N:=3) rfl ?_);refine box_event ?hg (N:=3) ?hd (cs:= #[.int .i64 fn,.int .i64 rg,.slice (some ad) bs.length cb]) (t:=24) ?hr ?_;(case hd=>rfl);(case hg=>rfl);(case hr=>first |(go_simp;done) |(go_simp;rfl));intro g1 hg1 w1 hA1 hb1;have HB1:=ak hb1;have u2:w1.cell? ⟨g1,2,none⟩=some (.slice (some ad) bs.length cb):=(qk hA1 2);replace hx1:=pw_cell_below hb1 hx1;clear hg1 hA1 hb1))
 go_ret
 exact ⟨_,rfl,Kd.R_nil _ _ _ _ _,HB1.out⟩
theorem after_calls (fn rg:Int) (Ab:Option Addr) (cb:Nat) (bs:List S43) (V:Nat→RS) (block ins:Int) (w:World) (hC:Kd.C k43 w Ab bs.length bs) (hn:bs.length*64≤281474976710656) (hV:Lfp (codeOf bs) V) :
  Calls Try.prog 11 #[.agg #[.int .i64 fn,.int .i64 rg,.slice Ab bs.length cb],.int .i64 block,.int .i64 ins] w fun e w'=>∃ v,e= .returned v∧Kd.R (Kd.int .i64) 3 w' w.heap.size (fun _=>True) v (after bs V block ins)∧Below w.heap.size w w':=by
 unfold after
 split
 ·rename_i h
  obtain ⟨b,rfl⟩:∃ b:Nat,block=b:=⟨block.toNat,by omega⟩
  obtain ⟨i,rfl⟩:∃ b:Nat,ins=b:=⟨ins.toNat,by omega⟩
  simp only [Int.toNat_natCast];exact after_main fn rg Ab cb bs V b i w hC hn hV (by omega) (by omega)
 ·rename_i h
  exact after_none fn rg Ab cb bs block ins w hC h
end Go.Proofs.Ytklknkfoafdgpaa.LiveAft
