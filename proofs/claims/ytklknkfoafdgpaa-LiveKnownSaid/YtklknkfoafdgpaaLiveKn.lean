import Derived.Test.YtklknkfoafdgpaaLiveAft
namespace Go.Proofs.Ytklknkfoafdgpaa.LiveRunP
open RowKit YtklknkfoafdgpaaW.PrintWords YtklknkfoafdgpaaW.PrintLast YtklknkfoafdgpaaW.PrintMore
open PLiveKnown LiveT LiveB LiveSet LiveAhead LiveEnd LiveInv LiveSettled LiveCopied LiveAft
set_option linter.unusedVariables false
set_option linter.unusedSimpArgs false
def runB (n:Nat) (V:Nat→RS) (b:S43):S43:=⟨b.f0,strip iOf b.f1 (endd n V b.f2),b.f2⟩
def runBs (bs:List S43) (V:Nat→RS):List S43:=bs.map (runB bs.length V)
theorem runBs_length (bs:List S43) (V:Nat→RS):(runBs bs V).length=bs.length:=by simp [runBs]
theorem runBs_take (bs:List S43) (V:Nat→RS) (b:Nat) (hb:b<bs.length):(runBs bs V).take (b+1)=(runBs bs V).take b++[runB bs.length V (rd_T43 bs b)]:=by
 have hg:rd_T43 bs b=bs[b]:=by simp [rd_T43,List.getD_eq_getElem?_getD,hb]
 rw [hg,List.take_add_one,List.getElem?_eq_getElem (by rw [runBs_length];exact hb)]
 simp [runBs]
def pickTo (ins:List S47) (fk:Nat→Bool) (i:Nat):List S47:=((List.range i).filter fk).map fun (k:Nat)=>rd_T47 ins (k:Int)
theorem pickTo_succ (ins:List S47) (fk:Nat→Bool) (i:Nat):pickTo ins fk (i+1)=pickTo ins fk i++(if fk i=true then [rd_T47 ins i] else []):=by
 simp only [pickTo,List.range_succ,List.filter_append,List.map_append,List.filter_cons,List.filter_nil]
 split<;>simp_all
theorem pickTo_length (ins:List S47) (fk:Nat→Bool) (i:Nat):(pickTo ins fk i).length≤i:=by
 simp only [pickTo,List.length_map];exact Nat.le_trans (List.length_filter_le _ _) (by simp)
theorem rd47_succ (x:S47) (l:List S47) (i:Nat):rd_T47 (x::l) ((i+1:Nat):Int)=rd_T47 l (i:Int):=by
 simp only [rd_T47,Int.toNat_natCast,List.getD_eq_getElem?_getD,List.getElem?_cons_succ]
theorem pick_strip (ins:List S47) (E:RS) (fk:Nat→Bool) (h:∀ i,i<ins.length→fk i= !idle (iOf (rd_T47 ins i)) (back ((ins.drop (i+1)).map iOf) E)):pickTo ins fk ins.length=strip iOf ins E:=by
 induction ins generalizing fk with
 |nil=>rfl
 |cons x l ih =>
  have h0:=h 0 (by simp);have h1:=ih (fun i=>fk (i+1)) (fun i hi=>by
   have:=h (i+1) (by simp;omega);rw [rd47_succ] at this
   simpa using this)
  have e:pickTo (x::l) fk (x::l).length=(if fk 0=true then [x] else [])++pickTo l (fun i=>fk (i+1)) l.length:=by
   simp only [pickTo,List.length_cons,List.range_succ_eq_map,List.filter_cons,List.filter_map]
   split
   ·simp only [List.map_cons,List.map_map,List.singleton_append]
    congr 1
   ·simp only [List.map_map,List.nil_append];apply List.map_congr_left;intro i _;exact rd47_succ x l i
  rw [e,h1,h0];have hr:rd_T47 (x::l) ((0:Nat):Int)=x:=rfl;rw [hr];simp only [List.drop_succ_cons,List.drop_zero,strip];cases hd:idle (iOf x) (back (l.map iOf) E)
  ·simp
  ·simp
def KS (w:World) (g n:Nat) (f:Nat→Bool):Prop:=∃ cs:Array Value,w.heap[g]? =some (.cells cs 4 (0,0))∧cs.size=n∧∀ i,i<n→cs[i]? =some (.bool (f i))
section
variable {w w1:World} {g n:Nat} {f:Nat→Bool}
theorem ks_below (h:KS w g n f) (hb:Below w.heap.size w w1):KS w1 g n f:=by
 obtain ⟨cs,h1,h2,h3⟩:=h;exact ⟨cs,(hb.block g (blk_lt h1)).trans h1,h2,h3⟩
theorem ks_grown {r:Option Nat} (h:KS w g n f) (hg:w.grownBy w1 r) (hne:some g≠r):KS w1 g n f:=by
 obtain ⟨cs,h1,h2,h3⟩:=h;exact ⟨cs,blk_grown h1 hg hne,h2,h3⟩
theorem ks_lt (h:KS w g n f):g<w.heap.size:=by
 obtain ⟨cs,h1,h2,h3⟩:=h;exact blk_lt h1
theorem ks_cell (h:KS w g n f) (i:Nat) (hi:i<n):w.cell? ⟨g,i,none⟩=some (.bool (f i)):=by
 obtain ⟨cs,h1,h2,h3⟩:=h;exact (blk_cell h1 i).trans (h3 i hi)
theorem ks_frozen (h:KS w g n f) (i:Nat):w.frozen? ⟨g,i,none⟩=false:=by
 obtain ⟨cs,h1,h2,h3⟩:=h;exact blk_frozen h1 i
theorem ks_put (h:KS w g n f) (i:Nat) (t:Bool):KS (w.setCell ⟨g,i,none⟩ (.bool t)) g n (fun k=>if k=i then t else f k):=by
 obtain ⟨cs,h1,h2,h3⟩:=h;refine ⟨_,blk_set h1 i _,by simp [h2],fun k hk=>?_⟩;rw [Array.getElem?_setIfInBounds]
 by_cases he:i=k
 ·subst he;rw [if_pos rfl,if_pos (by omega)]
  simp
 ·rw [if_neg he,h3 k hk]
  simp [Ne.symm he]
end
theorem infoBool:(Try.prog.info? 4).map (fun i=>(i.zero,i.size,i.bytes))=some (some (.bool false),1,1):=by kernel_rfl
def madeB (n:Nat):Array Value:=madeCells #[.bool false] (n*1)
theorem makeB_run (n:Nat) (h:n≤281474976710656) (W:World):(Instr.makeSlice 53 (.int .i64 n) (.int .i64 n)).run Try.prog W= .ok (.slice (some ⟨W.heap.size,0,none⟩) n n) (W.alloc (.cells (madeB n) 4)):=by
 obtain ⟨i0,hi,hzz⟩:=Option.map_eq_some_iff.1 infoBool;simp only [Prod.mk.injEq] at hzz;obtain ⟨hz0,hz1,hz2⟩:=hzz;have h1:=run_make (P:=Try.prog) W 53 4 i0 _ Try.underlying53 hi hz0 .i64 .i64 (n:Int) (n:Int) (by omega) (by omega) (by rw [hz2];omega) (by omega);rw [hz1] at h1;exact h1
theorem ks_made (W1:World) (g n:Nat) (h:W1.heap[g]? =some (.cells (madeB n) 4 (0,0))):KS W1 g n (fun _=>false):=by
 refine ⟨madeB n,h,by rw [madeB,size_madeCells,Nat.mul_one],fun i hi=>?_⟩
 simp [madeB,madeCells,hi,Nat.mod_one]
structure RW (w W:World) (g1 g2 g4 gf gw:Nat) (fn rg:Int) (Ab:Option Addr) (cb:Nat) (bs:List S43) (V:Nat→RS) (v:Value) (ys:List S43):Prop where
 below:Below w.heap.size w W
 b2:W.heap[g2]? =some (.cells #[.int .i64 0,.int .i64 0,.slice none 0 0] 24 (0,0))
 b4:W.heap[g4]? =some (.cells #[.int .i64 fn,.int .i64 rg,v] 24 (0,0))
 fl:Flow W gf fn rg Ab cb gw bs V
 own:Kd.R k43 43 W w.heap.size (fun k=>k≠g2∧k≠g4∧k≠gf∧k≠gw) v ys
 n24:g2≠g4
 nf4:gf≠g4
 nw4:gw≠g4
 l2:w.heap.size≤g2
 l4:w.heap.size≤g4
section
variable {w W W1:World} {g1 g2 g4 gf gw:Nat} {fn rg:Int} {Ab:Option Addr} {cb:Nat} {bs:List S43} {V:Nat→RS} {v v1:Value} {ys ys1:List S43}
theorem RW.next (h:RW w W g1 g2 g4 gf gw fn rg Ab cb bs V v ys) (hb:Below W.heap.size W W1):RW w W1 g1 g2 g4 gf gw fn rg Ab cb bs V v ys:=
 ⟨below_step h.below hb,(hb.block g2 (blk_lt h.b2)).trans h.b2,(hb.block g4 (blk_lt h.b4)).trans h.b4,h.fl.below hb,Kd.R_below h.own hb,h.n24,h.nf4,h.nw4,h.l2,h.l4⟩
theorem RW.push (h:RW w W g1 g2 g4 gf gw fn rg Ab cb bs V v ys) (hC:Kd.C k43 w Ab bs.length bs) (hR:Kd.R k43 43 W1 w.heap.size (fun k=>k≠g2∧k≠g4∧k≠gf∧k≠gw) v1 ys1) (hb:Below w.heap.size w W1) (hg:W.grownBy W1 v.ownBlock):RW w (W1.setCell ⟨g4,2,none⟩ v1) g1 g2 g4 gf gw fn rg Ab cb bs V v1 ys1:=by
 have e2:some g2≠v.ownBlock:=fun he=>(h.own.1 g2 he.symm).1 rfl
 have e4:some g4≠v.ownBlock:=fun he=>(h.own.1 g4 he.symm).2.1 rfl
 have ef:some gf≠v.ownBlock:=fun he=>(h.own.1 gf he.symm).2.2.1 rfl
 have ew:some gw≠v.ownBlock:=fun he=>(h.own.1 gw he.symm).2.2.2 rfl
 have hb2:Below w.heap.size w (W1.setCell ⟨g4,2,none⟩ v1):=hb.setCell h.l4 _;refine ⟨hb2,blk_far (blk_grown h.b2 hg e2) h.n24 _,blk_put (blk_grown h.b4 hg e4) 2 _ rfl,⟨blk_far (blk_grown h.fl.blk hg ef) h.nf4 _,Kd.C_below hC hb2,?_,h.fl.regs⟩,Kd.R_far hR (fun k hk=>hk.2.1) _,h.n24,h.nf4,h.nw4,h.l2,h.l4⟩;exact ws_grown (ws_grown h.fl.ws hg ew) (grown_set W1 g4 2 v1) (by intro he;cases he;exact h.nw4 rfl)
end
structure LW (wr W:World) (gs gk g6 n:Nat) (S:RS) (fk:Nat→Bool) (c6:Array Value):Prop where
 vw:VW wr W gs S
 ks:KS W gk n fk
 b6:W.heap[g6]? =some (.cells c6 43 (0,0))
 nk:gk≠gs
 n6k:g6≠gk
 n6s:g6≠gs
 lk:wr.heap.size≤gk
section
variable {wr W W1:World} {gs gk g6 n:Nat} {S T:RS} {fk fk1:Nat→Bool} {c6:Array Value}
theorem LW.next (h:LW wr W gs gk g6 n S fk c6) (hb:Below W.heap.size W W1):LW wr W1 gs gk g6 n S fk c6:=
 ⟨h.vw.next hb,ks_below h.ks hb,(hb.block g6 (blk_lt h.b6)).trans h.b6,h.nk,h.n6k,h.n6s,h.lk⟩
theorem LW.putS (h:LW wr W gs gk g6 n S fk c6) (hA:At W1 gs T) (hg:W.grownBy W1 (some gs)):LW wr W1 gs gk g6 n T fk c6:=
 ⟨h.vw.put hA hg,ks_grown h.ks hg (by intro he;cases he;exact h.nk rfl),blk_grown h.b6 hg (by intro he;cases he;exact h.n6s rfl),h.nk,h.n6k,h.n6s,h.lk⟩
theorem LW.putK (h:LW wr W gs gk g6 n S fk c6) (hK:KS W1 gk n fk1) (hg:W.grownBy W1 (some gk)):LW wr W1 gs gk g6 n S fk1 c6:=
 ⟨⟨h.vw.below.grown hg h.vw.below.size (fun k hk=>by cases hk;exact h.lk),at_grown h.vw.at_ hg (by intro he;cases he;exact h.nk rfl),h.vw.lt⟩,hK,blk_grown h.b6 hg (by intro he;cases he;exact h.n6k rfl),h.nk,h.n6k,h.n6s,h.lk⟩
end
structure NW (wr W:World) (gk g10 n:Nat) (fk:Nat→Bool) (pc:Int) (vI vN:Value) (zs:List S47) (nx:List Int):Prop where
 below:Below wr.heap.size wr W
 b10:W.heap[g10]? =some (.cells #[.int .i64 pc,vI,vN] 43 (0,0))
 rI:Kd.R k47 47 W wr.heap.size (fun k=>k≠g10∧some k≠vN.ownBlock) vI zs
 rN:Kd.R (Kd.int .i64) 3 W wr.heap.size (fun k=>vN.ownBlock=some k) vN nx
 nN:∀ k,vN.ownBlock=some k→k≠g10
 ks:KS W gk n fk
 lk:gk<wr.heap.size
 lt:wr.heap.size≤g10
section
variable {wr W W1:World} {gk g10 n:Nat} {fk:Nat→Bool} {pc:Int} {vI vN v1:Value} {zs zs1:List S47} {nx:List Int}
theorem NW.next (h:NW wr W gk g10 n fk pc vI vN zs nx) (hb:Below W.heap.size W W1):NW wr W1 gk g10 n fk pc vI vN zs nx:=
 ⟨below_step h.below hb,(hb.block g10 (blk_lt h.b10)).trans h.b10,Kd.R_below h.rI hb,Kd.R_below h.rN hb,h.nN,ks_below h.ks hb,h.lk,h.lt⟩
theorem NW.push (h:NW wr W gk g10 n fk pc vI vN zs nx) (hR:Kd.R k47 47 W1 wr.heap.size (fun k=>k≠g10∧some k≠vN.ownBlock) v1 zs1) (hb:Below wr.heap.size wr W1) (hg:W.grownBy W1 vI.ownBlock):NW wr (W1.setCell ⟨g10,1,none⟩ v1) gk g10 n fk pc v1 vN zs1 nx:=by
 have e10:some g10≠vI.ownBlock:=fun he=>(h.rI.1 g10 he.symm).1 rfl
 have ek:some gk≠vI.ownBlock:=fun he=>by have:=Kd.R_base h.rI gk he.symm;have:=h.lk;omega
 refine ⟨hb.setCell h.lt _,blk_put (blk_grown h.b10 hg e10) 1 _ rfl,Kd.R_far hR (fun k hk=>hk.1) _,?_,h.nN,?_,h.lk,h.lt⟩
 ·exact Kd.R_far (Kd.R_grown h.rN hg (fun k hk he=>(h.rI.1 k he.symm).2 hk.symm)) (fun k hk=>h.nN k hk) _
 ·exact ks_grown (ks_grown h.ks hg ek) (grown_set W1 g10 1 v1) (by intro he;cases he;have:=h.lk;have:=h.lt;omega)
end
structure FitC (bs:List S43):Prop where
 blocks:bs.length*56≤140737488355328
 ins:∀ b,b<bs.length→(rd_T43 bs b).f1.length*96≤140737488355328
 next:∀ b,b<bs.length→(rd_T43 bs b).f2.length*8≤140737488355328
 each:∀ b,b<bs.length→∀ i,i<(rd_T43 bs b).f1.length→Fit47 (rd_T47 (rd_T43 bs b).f1 i)
end Go.Proofs.Ytklknkfoafdgpaa.LiveRunP
namespace Go.Proofs.Ytklknkfoafdgpaa.LiveKn
open RowKit YtklknkfoafdgpaaW.PrintWords
open PLiveKnown LiveT LiveB LiveAhead LiveSettled LiveCopied LiveAft LiveRunP
set_option linter.unusedVariables false
set_option linter.unusedSimpArgs false
theorem lfp_exists (c:List Blk):∃ V,Lfp c V:=by
 classical
 let V:Nat→RS:=fun b r=>decide (∀ P,Pre c P→P b r=true)
 have hle:∀ P,Pre c P→∀ b,Le (V b) (P b):=fun P hP b r hr=>(of_decide_eq_true hr) P hP
 have hpre:Pre c V:=by
  intro b B hB r hr;apply decide_eq_true;intro P hP;exact hP b B hB r (back_mono B.1 (endd_mono B.2 (fun n _=>hle P hP n)) r hr)
 refine ⟨V,⟨fun b B hB=>?_,fun P hP b _=>hle P hP b⟩⟩;apply le_antisymm'
 ·have hQ:Pre c (fun b r=>match c[b]? with |some B=>back B.1 (endd c.length V B.2) r |none=>true):=by
   intro b' B' hB' r hr;simp only [hB'];refine back_mono B'.1 (endd_mono B'.2 (fun n hn r hr=>?_)) r hr;cases hc:c[n]? with
   |none=>rw [List.getElem?_eq_none_iff] at hc;omega
   |some Bn =>
    simp only [hc] at hr;exact hpre n Bn hc r hr
  intro r hr;have:=hle _ hQ b r hr;simp only [hB] at this;exact this
 ·exact hpre b B hB
def kIns0:List S47:=[⟨1,0,2,[⟨0,0⟩],0,0,0,[]⟩,⟨2,12,3,[⟨0,2⟩,⟨3,5⟩],2,0,0,[]⟩,⟨1,0,2,[⟨1,0⟩],0,0,0,[]⟩,⟨6,0,-1,[],0,0,0,[⟨0,0,[⟨0,0⟩,⟨0,2⟩]⟩]⟩,⟨7,0,-1,[],0,0,0,[]⟩]
def kIns1:List S47:=[⟨6,0,-1,[],0,0,0,[⟨0,0,[⟨0,0⟩,⟨0,1⟩]⟩]⟩,⟨9,0,-1,[],0,0,0,[⟨0,0,[⟨0,0⟩,⟨0,1⟩]⟩]⟩]
def known:List S43:=[⟨0,kIns0,[1]⟩,⟨9,kIns1,[]⟩]
def knownWant:List S43:=[⟨0,kIns0.drop 2,[1]⟩,⟨9,kIns1,[]⟩]
def kV1:RS:=back (kIns1.map iOf) none'
theorem kV1_eq (r:Int):kV1 r=(inR r&&(r==0||r==1)):=by
 have h:∀ r:Int,kV1 r=((((none' r&&r != -1)||(inR r&&asks47 ⟨9,0,-1,[],0,0,0,[⟨0,0,[⟨0,0⟩,⟨0,1⟩]⟩]⟩ r))&&r != -1)||(inR r&&asks47 ⟨6,0,-1,[],0,0,0,[⟨0,0,[⟨0,0⟩,⟨0,1⟩]⟩]⟩ r)):=fun r=>rfl
 rw [h];have ha:∀ o:Int,asks47 ⟨o,0,-1,[],0,0,0,[⟨0,0,[⟨0,0⟩,⟨0,1⟩]⟩]⟩ r=(r==0||r==1):=fun o=>by
  simp [asks47,regsOf]
  rfl
 rw [ha,ha];simp only [none']
 by_cases h0:r=0
 ·subst h0;rfl
 ·by_cases h1:r=1
  ·subst h1;rfl
  ·simp [h0,h1]
theorem known_v1 {V:Nat→RS} (h:Lfp (codeOf known) V):V 1=kV1:=by
 rw [h.fix 1 (kIns1.map iOf,[]) rfl];rfl
theorem known_e0 {V:Nat→RS} (h:Lfp (codeOf known) V):endd known.length V [1]=kV1:=by
 rw [←known_v1 h]
 funext r
 simp [endd,known]
theorem known_e1 {V:Nat→RS}:endd known.length V []=none':=by
 funext r
 simp [endd,none']
theorem range_two:(List.range 512).filter (fun r=>r==0||r==1)=[0,1]:=by decide +kernel
theorem regs_of_two {S:RS} (h:∀ r:Nat,r<512→S (r:Int)=(r==0||r==1)):regsTo S 512=[0,1]:=by
 have e:(List.range 512).filter (fun (r:Nat)=>S (r:Int))=(List.range 512).filter (fun r=>r==0||r==1):=List.filter_congr fun r hr=>h r (List.mem_range.mp hr)
 unfold regsTo;rw [e,range_two];rfl
theorem range_three:(List.range 512).filter (fun r=>r==0||r==1||r==2)=[0,1,2]:=by decide +kernel
theorem regs_of_three {S:RS} (h:∀ r:Nat,r<512→S (r:Int)=(r==0||r==1||r==2)):regsTo S 512=[0,1,2]:=by
 have e:(List.range 512).filter (fun (r:Nat)=>S (r:Int))=(List.range 512).filter (fun r=>r==0||r==1||r==2):=List.filter_congr fun r hr=>h r (List.mem_range.mp hr)
 unfold regsTo;rw [e,range_three];rfl
theorem in512 (r:Nat) (h:r<512):inR (r:Int)=true:=by simp [inR];omega
theorem kB4 (r:Nat) (h:r<512):kV1 (r:Int)=(r==0||r==1):=by
 rw [kV1_eq,in512 r h,Bool.true_and,Bool.eq_iff_iff]
 simp
 omega
def kB3:RS:=back ((kIns0.drop 4).map iOf) kV1
def kB2:RS:=back ((kIns0.drop 3).map iOf) kV1
def kB1:RS:=back ((kIns0.drop 2).map iOf) kV1
def kB0:RS:=back ((kIns0.drop 1).map iOf) kV1
theorem kB3_eq (r:Int):kB3 r=(inR r&&(r==0||r==1)):=by
 have h:kB3 r=((kV1 r&&r != -1)||(inR r&&asks47 ⟨7,0,-1,[],0,0,0,[]⟩ r)):=rfl;rw [h,kV1_eq];have ha:asks47 ⟨7,0,-1,[],0,0,0,[]⟩ r=false:=rfl;rw [ha]
 by_cases h0:r= -1
 ·subst h0;rfl
 ·simp [h0]
theorem kB2_eq (r:Int):kB2 r=(inR r&&(r==0||r==1||r==2)):=by
 have h:kB2 r=((kB3 r&&r != -1)||(inR r&&asks47 ⟨6,0,-1,[],0,0,0,[⟨0,0,[⟨0,0⟩,⟨0,2⟩]⟩]⟩ r)):=rfl;rw [h,kB3_eq];have ha:asks47 ⟨6,0,-1,[],0,0,0,[⟨0,0,[⟨0,0⟩,⟨0,2⟩]⟩]⟩ r=(r==0||r==2):=by
  simp [asks47,regsOf]
  rfl
 rw [ha]
 by_cases h0:r= -1
 ·subst h0;rfl
 ·have hb:(r != -1)=true:=bne_iff_ne.mpr h0;rw [hb];cases inR r<;>cases (r==0)<;>cases (r==1)<;>cases (r==2)<;>rfl
theorem kB1_eq (r:Int):kB1 r=(inR r&&(r==0||r==1)):=by
 have h:kB1 r=((kB2 r&&r != 2)||(inR r&&asks47 ⟨1,0,2,[⟨1,0⟩],0,0,0,[]⟩ r)):=by
  have hi:idle (iOf ⟨1,0,2,[⟨1,0⟩],0,0,0,[]⟩) kB2=false:=by
   have:kB2 2=true:=by rw [kB2_eq];rfl
   simp [idle,iOf,q47,this]
  show LiveT.ahead (iOf ⟨1,0,2,[⟨1,0⟩],0,0,0,[]⟩) kB2 r=_
  simp only [LiveT.ahead,hi];rfl
 rw [h,kB2_eq];have ha:asks47 ⟨1,0,2,[⟨1,0⟩],0,0,0,[]⟩ r=false:=rfl;rw [ha]
 by_cases h0:r=2
 ·subst h0;rfl
 ·have hb:(r != 2)=true:=bne_iff_ne.mpr h0;have hc:(r==2)=false:=beq_eq_false_iff_ne.mpr h0;rw [hb,hc];cases inR r<;>cases (r==0)<;>cases (r==1)<;>rfl
theorem kB0_eq:kB0=kB1:=by
 have hi:idle (iOf ⟨2,12,3,[⟨0,2⟩,⟨3,5⟩],2,0,0,[]⟩) kB1=true:=by
  have:kB1 3=false:=by rw [kB1_eq];rfl
  simp [idle,iOf,q47,this]
 exact ahead_idle hi
theorem kS0:idle (iOf ⟨1,0,2,[⟨0,0⟩],0,0,0,[]⟩) kB0=true:=by
 have:kB0 2=false:=by rw [kB0_eq,kB1_eq];rfl
 simp [idle,iOf,q47,this]
theorem kS1:idle (iOf ⟨2,12,3,[⟨0,2⟩,⟨3,5⟩],2,0,0,[]⟩) kB1=true:=by
 have:kB1 3=false:=by rw [kB1_eq];rfl
 simp [idle,iOf,q47,this]
theorem kS2:idle (iOf ⟨1,0,2,[⟨1,0⟩],0,0,0,[]⟩) kB2=false:=by
 have:kB2 2=true:=by rw [kB2_eq];rfl
 simp [idle,iOf,q47,this]
theorem known_strip0:strip iOf kIns0 kV1=kIns0.drop 2:=by
 have h0:strip iOf kIns0 kV1=strip iOf (kIns0.drop 1) kV1:=if_pos kS0;have h1:strip iOf (kIns0.drop 1) kV1=strip iOf (kIns0.drop 2) kV1:=if_pos kS1;have h2:strip iOf (kIns0.drop 2) kV1=⟨1,0,2,[⟨1,0⟩],0,0,0,[]⟩::strip iOf (kIns0.drop 3) kV1:=if_neg (fun h=>Bool.noConfusion (kS2.symm.trans h));have h3:strip iOf (kIns0.drop 3) kV1=kIns0.drop 3:=rfl;rw [h0,h1,h2,h3];rfl
theorem known_strip1:strip iOf kIns1 none'=kIns1:=rfl
theorem known_run {V:Nat→RS} (h:Lfp (codeOf known) V):runBs known V=knownWant:=by
 have e0:endd 2 V [1]=kV1:=known_e0 h;have e1:endd 2 V []=none':=known_e1
 show [runB 2 V ⟨0,kIns0,[1]⟩,runB 2 V ⟨9,kIns1,[]⟩]=_
 simp only [runB,e0,e1,known_strip0,known_strip1];rfl
theorem known_after {V:Nat→RS} (h:Lfp (codeOf known) V):after known V 0 4=[0,1]∧after known V 0 2=[0,1,2]∧after known V 0 1=[0,1]∧after known V 0 0=[0,1]∧after known V 0 5=[]∧after known V 2 0=[]:=by
 have e0:endd 2 V [1]=kV1:=known_e0 h;have b:∀ i:Nat,behind known V 0 i=back ((kIns0.drop (i+1)).map iOf) kV1:=fun i=>by rw [←e0];rfl
 refine ⟨?_,?_,?_,?_,rfl,rfl⟩
 ·show regsTo (behind known V 0 4) 512=_
  rw [b 4];exact regs_of_two fun r hr=>kB4 r hr
 ·show regsTo (behind known V 0 2) 512=_
  rw [b 2];refine regs_of_three fun r hr=>?_
  show kB2 r=_
  rw [kB2_eq,in512 r hr,Bool.true_and,Bool.eq_iff_iff]
  simp
  omega
 ·show regsTo (behind known V 0 1) 512=_
  rw [b 1];refine regs_of_two fun r hr=>?_
  show kB1 r=_
  rw [kB1_eq,in512 r hr,Bool.true_and,Bool.eq_iff_iff]
  simp
  omega
 ·show regsTo (behind known V 0 0) 512=_
  rw [b 0];refine regs_of_two fun r hr=>?_
  show kB0 r=_
  rw [kB0_eq,kB1_eq,in512 r hr,Bool.true_and,Bool.eq_iff_iff]
  simp
  omega
theorem known_fit:FitC known:=by
 refine ⟨by decide,?_,?_,?_⟩
 all_goals
  intro b hb;have hb2:b=0∨b=1:=by simp [known] at hb;omega
 ·rcases hb2 with rfl |rfl<;>decide
 ·rcases hb2 with rfl |rfl<;>decide
 ·intro i hi;have key:∀ x∈kIns0++kIns1,Fit47 x:=by
   intro x hx
   simp [kIns0,kIns1] at hx
   rcases hx with rfl |rfl |rfl |rfl |rfl |rfl |rfl<;>exact ⟨by decide,by decide,fun k hk=>by first |(simp at hk;done) |(obtain rfl:k=0:=(by simp at hk;omega);decide)⟩
  rcases hb2 with rfl |rfl
  ·have hm:rd_T47 (rd_T43 known ((0:Nat):Int)).f1 i∈kIns0++kIns1:=by
    have:rd_T47 (rd_T43 known ((0:Nat):Int)).f1 i=kIns0[i]:=by
     have h:i<kIns0.length:=hi
     show rd_T47 kIns0 i=_
     simp [rd_T47,List.getD_eq_getElem?_getD,h]
     try rfl
    rw [this];exact List.mem_append_left _ (List.getElem_mem _)
   exact key _ hm
  ·have hm:rd_T47 (rd_T43 known ((1:Nat):Int)).f1 i∈kIns0++kIns1:=by
    have:rd_T47 (rd_T43 known ((1:Nat):Int)).f1 i=kIns1[i]:=by
     have h:i<kIns1.length:=hi
     show rd_T47 kIns1 i=_
     simp [rd_T47,List.getD_eq_getElem?_getD,h]
     try rfl
    rw [this];exact List.mem_append_right _ (List.getElem_mem _)
   exact key _ hm
end Go.Proofs.Ytklknkfoafdgpaa.LiveKn
