import Derived.Test.YtklknkfoafdgpaaLiveB
import Derived.Test.YtklknkfoafdgpaaPLiveKnownx2
import Derived.Deep.RegionWith
namespace Go.Proofs.Ytklknkfoafdgpaa.LiveSet
set_option maxHeartbeats 8000000
set_option maxRecDepth 100000
open RowKit YtklknkfoafdgpaaW.PrintWords YtklknkfoafdgpaaW.PrintLast YtklknkfoafdgpaaW.PrintMore
open PLiveKnown LiveT LiveB
set_option linter.unusedVariables false
set_option linter.unusedSimpArgs false
def u64 (n:Nat):Value:= .int .u64 n
def cellsV (S:RS):Array Value:= #[u64 (word S 0),u64 (word S 1),u64 (word S 2),u64 (word S 3),u64 (word S 4),u64 (word S 5),u64 (word S 6),u64 (word S 7)]
def setV (S:RS):Value:= .agg (cellsV S)
theorem cellsV_get (S:RS) (i:Nat) (hi:i<8):(cellsV S)[i]? =some (u64 (word S i)):=by
 rcases (by omega:i=0∨i=1∨i=2∨i=3∨i=4∨i=5∨i=6∨i=7) with rfl |rfl |rfl |rfl |rfl |rfl |rfl |rfl<;>rfl
theorem cellsV_set (S T:RS) (q:Nat) (hq:q<8) (h:∀ i,i<8→word T i=if i=q then word T q else word S i):(cellsV S).setIfInBounds q (u64 (word T q))=cellsV T:=by
 rcases (by omega:q=0∨q=1∨q=2∨q=3∨q=4∨q=5∨q=6∨q=7) with rfl |rfl |rfl |rfl |rfl |rfl |rfl |rfl <;>
  (have h0:=h 0 (by omega);have h1:=h 1 (by omega);have h2:=h 2 (by omega);have h3:=h 3 (by omega);have h4:=h 4 (by omega);have h5:=h 5 (by omega);have h6:=h 6 (by omega);have h7:=h 7 (by omega)
   simp at h0 h1 h2 h3 h4 h5 h6 h7
   simp only [cellsV,h0,h1,h2,h3,h4,h5,h6,h7];rfl)
theorem grown_set (w:World) (g q:Nat) (v:Value):w.grownBy (w.setCell ⟨g,q,none⟩ v) (some g):=by
 have h:=(Below.refl 0 w).setCell (p:=⟨g,q,none⟩) (Nat.zero_le _) v;refine ⟨h.os,h.tape,h.output,h.size,fun i hi hne=>Below.heap_setCell w _ _ i (fun he=>hne (by rw [he]))⟩
theorem grown_drew {w w1:World} {r:Option Nat} (h:w.grownBy w1 r):w.grownBy w1.drew r:=⟨h.os,h.tape,h.output,h.size,h.block⟩
theorem grown_trans {w w1 w2:World} {r:Option Nat} (h:w.grownBy w1 r) (k:w1.grownBy w2 r):w.grownBy w2 r:=⟨k.os.trans h.os,k.tape.trans h.tape,k.output.trans h.output,Nat.le_trans h.size k.size,fun i hi hne=>(k.block i (Nat.lt_of_lt_of_le hi h.size) hne).trans (h.block i hi hne)⟩
def At (w:World) (g:Nat) (S:RS):Prop:=w.heap[g]? =some (.cells (cellsV S) 64 (0,0))
theorem pow_wrap (m:Nat) (hm:m<64):IntKind.u64.wrap (2 ^ min m 64)=((2 ^ m:Nat):Int):=by
 have h1:min m 64=m:=by omega
 have h2:(2 ^ m:Nat)<2 ^ 64:=Nat.pow_lt_pow_right (by omega) hm;have h3:((2 ^ m:Nat):Int)=2 ^ m:=by simp
 rw [h1,←h3,IntKind.wrap_u64];generalize 2 ^ m=y at h2 ⊢;omega
structure Turn (S T:RS) (n q m p x z:Nat) (op:BinOp):Prop where
 y1:IntKind.i64.wrap ((n:Int) / 64)=(q:Int)
 y2:(n:Int).tmod 64=(m:Int)
 y3:(q:Int)<8
 y4:IntKind.u64.wrap (2 ^ min m 64)=(p:Int)
 y5:bits op .u64 x p=(z:Int)
 cell:(cellsV S)[q]? =some (u64 x)
 set:(cellsV S).setIfInBounds q (u64 z)=cellsV T
theorem turn_add (S:RS) (n:Nat) (hn:n<512):∃ q m p x z,Turn S (addR S n) n q m p x z .or:=by
 have hlt:(2 ^ (n % 64):Nat)<2 ^ 64:=Nat.pow_lt_pow_right (by omega) (by omega);refine ⟨n / 64,n % 64,2 ^ (n % 64),word S (n / 64),word (addR S n) (n / 64),?_,?_,?_,?_,?_,?_,?_⟩
 ·rw [IntKind.wrap_i64];omega
 ·rw [Int.tmod_eq_emod_of_nonneg (by omega)];omega
 ·omega
 ·exact pow_wrap _ (by omega)
 ·rw [u64_or_nat _ _ (word_lt _ _) (by omega),word_add S n _ hn,if_pos rfl]
 ·exact cellsV_get S _ (by omega)
 ·refine cellsV_set S _ _ (by omega) fun i hi=>?_
  by_cases he:i=n / 64
  ·rw [if_pos he,he]
  ·rw [if_neg he,word_add S n i hn,if_neg he]
theorem turn_del (S:RS) (n:Nat) (hn:n<512):∃ q m p x z,Turn S (delR S n) n q m p x z .andNot:=by
 have hlt:(2 ^ (n % 64):Nat)<2 ^ 64:=Nat.pow_lt_pow_right (by omega) (by omega);refine ⟨n / 64,n % 64,2 ^ (n % 64),word S (n / 64),word (delR S n) (n / 64),?_,?_,?_,?_,?_,?_,?_⟩
 ·rw [IntKind.wrap_i64];omega
 ·rw [Int.tmod_eq_emod_of_nonneg (by omega)];omega
 ·omega
 ·exact pow_wrap _ (by omega)
 ·rw [u64_andNot_nat _ _ (word_lt _ _) (by omega),word_del S n _ hn,if_pos rfl]
 ·exact cellsV_get S _ (by omega)
 ·refine cellsV_set S _ _ (by omega) fun i hi=>?_
  by_cases he:i=n / 64
  ·rw [if_pos he,he]
  ·rw [if_neg he,word_del S n i hn,if_neg he]
theorem inR_false {r:Int} (h:¬ (0≤r∧r<512)):inR r=false:=by
 simp only [inR]
 by_cases h0:0≤r
 ·have:¬ r<512:=fun h1=>h ⟨h0,h1⟩
  simp [this]
 ·simp [h0]
theorem add_calls (g:Nat) (S:RS) (r:Int) (w:World) (h:At w g S) :
  Calls Try.prog 54 #[.pointer (some ⟨g,0,none⟩),.int .i64 r] w fun e w'=>e= .returned (.tuple #[])∧w.grownBy w' (some g)∧At w' g (addR S r):=by
 by_cases hr:0≤r∧r<512
 ·obtain ⟨n,rfl⟩:∃ n:Nat,r=n:=⟨r.toNat,by omega⟩
  have hn:n<512:=by omega
  have hb0:decide ((0:Int)≤n)=true:=decide_eq_true (by omega);have hb1:decide ((n:Int)<512)=true:=decide_eq_true (by omega);obtain ⟨q,m,p,x,z,ht⟩:=turn_add S n hn;have HT:=ak ht;have HH:=ak h;obtain ⟨y1,y2,y3,y4,y5,hc0,_⟩:=ht;have hc:w.cell? ⟨g,q,none⟩=some (.int .u64 x):=by rw [blk_cell h];exact hc0
  have hf:w.frozen? ⟨g,q,none⟩=false:=blk_frozen h _;clear hr hc0 h
  go_enter Try.func54,Try.ntmps54
  go_wp2
  go_region_with (fail)
  go_end0
  exact ⟨rfl,grown_drew (grown_set w g q _),blk_put HH.out q _ HT.out.set⟩
 ·rw [addR_out S r (inR_false hr)]
  by_cases h0:0≤r
  ·have hb0:decide (0≤r)=true:=decide_eq_true h0;have hb1:decide (r<512)=false:=decide_eq_false (by omega);have HH:=ak h;clear hr h
   go_enter Try.func54,Try.ntmps54
   go_wp2
   go_end0
   exact ⟨rfl,grown_of_below (Below.refl _ w) _,HH.out⟩
  ·have hb0:decide (0≤r)=false:=decide_eq_false h0;have HH:=ak h;clear hr h
   go_enter Try.func54,Try.ntmps54
   go_wp2
   go_end0
   exact ⟨rfl,grown_of_below (Below.refl _ w) _,HH.out⟩
theorem del_calls (g:Nat) (S:RS) (r:Int) (w:World) (h:At w g S) (hS:Regs S) :
  Calls Try.prog 53 #[.pointer (some ⟨g,0,none⟩),.int .i64 r] w fun e w'=>e= .returned (.tuple #[])∧w.grownBy w' (some g)∧At w' g (delR S r):=by
 by_cases hr:0≤r∧r<512
 ·obtain ⟨n,rfl⟩:∃ n:Nat,r=n:=⟨r.toNat,by omega⟩
  have hn:n<512:=by omega
  have hb0:decide ((0:Int)≤n)=true:=decide_eq_true (by omega);have hb1:decide ((n:Int)<512)=true:=decide_eq_true (by omega);obtain ⟨q,m,p,x,z,ht⟩:=turn_del S n hn;have HT:=ak ht;have HH:=ak h;obtain ⟨y1,y2,y3,y4,y5,hc0,_⟩:=ht;have hc:w.cell? ⟨g,q,none⟩=some (.int .u64 x):=by rw [blk_cell h];exact hc0
  have hf:w.frozen? ⟨g,q,none⟩=false:=blk_frozen h _;clear hr hc0 h
  go_enter Try.func53,Try.ntmps53
  go_wp2
  go_region_with (fail)
  go_end0
  exact ⟨rfl,grown_drew (grown_set w g q _),blk_put HH.out q _ HT.out.set⟩
 ·rw [delR_out hS r (inR_false hr)]
  by_cases h0:0≤r
  ·have hb0:decide (0≤r)=true:=decide_eq_true h0;have hb1:decide (r<512)=false:=decide_eq_false (by omega);have HH:=ak h;clear hr h
   go_enter Try.func53,Try.ntmps53
   go_wp2
   go_end0
   exact ⟨rfl,grown_of_below (Below.refl _ w) _,HH.out⟩
  ·have hb0:decide (0≤r)=false:=decide_eq_false h0;have HH:=ak h;clear hr h
   go_enter Try.func53,Try.ntmps53
   go_wp2
   go_end0
   exact ⟨rfl,grown_of_below (Below.refl _ w) _,HH.out⟩
def put8 (w:World) (g:Nat) (T:RS):World:=(((((((w.setCell ⟨g,0,none⟩ (u64 (word T 0))).setCell ⟨g,1,none⟩ (u64 (word T 1))).setCell ⟨g,2,none⟩ (u64 (word T 2))).setCell ⟨g,3,none⟩ (u64 (word T 3))).setCell ⟨g,4,none⟩ (u64 (word T 4))).setCell ⟨g,5,none⟩ (u64 (word T 5))).setCell ⟨g,6,none⟩ (u64 (word T 6))).setCell ⟨g,7,none⟩ (u64 (word T 7))
theorem put8_grown (w:World) (g:Nat) (T:RS):w.grownBy (put8 w g T) (some g):=by
 unfold put8;exact grown_trans (grown_trans (grown_trans (grown_trans (grown_trans (grown_trans (grown_trans (grown_set _ _ _ _) (grown_set _ _ _ _)) (grown_set _ _ _ _)) (grown_set _ _ _ _)) (grown_set _ _ _ _)) (grown_set _ _ _ _)) (grown_set _ _ _ _)) (grown_set _ _ _ _)
theorem chain8 (a0 a1 a2 a3 a4 a5 a6 a7 b0 b1 b2 b3 b4 b5 b6 b7:Value):(((((((#[a0,a1,a2,a3,a4,a5,a6,a7].setIfInBounds 0 b0).setIfInBounds 1 b1).setIfInBounds 2 b2).setIfInBounds 3 b3).setIfInBounds 4 b4).setIfInBounds 5 b5).setIfInBounds 6 b6).setIfInBounds 7 b7= #[b0,b1,b2,b3,b4,b5,b6,b7]:=by
 simp only [List.setIfInBounds_toArray,List.set_cons_zero,List.set_cons_succ]
theorem put8_at {w:World} {g:Nat} {S:RS} (h:At w g S) (T:RS):At (put8 w g T) g T:=by
 unfold put8 At;exact blk_put (blk_set (blk_set (blk_set (blk_set (blk_set (blk_set (blk_set h 0 _) 1 _) 2 _) 3 _) 4 _) 5 _) 6 _) 7 _ (chain8 _ _ _ _ _ _ _ _ _ _ _ _ _ _ _ _)
theorem at_grown {w w1:World} {g:Nat} {S:RS} {r:Option Nat} (h:At w g S) (hg:w.grownBy w1 r) (hne:some g≠r):At w1 g S:=blk_grown h hg hne
theorem at_below {w w1:World} {g:Nat} {S:RS} (h:At w g S) (hb:Below w.heap.size w w1):At w1 g S:=(hb.block g (blk_lt h)).trans h
structure Cells8 (w:World) (g:Nat) (S:RS):Prop where
 c0:w.cell? ⟨g,0,none⟩=some (.int .u64 (word S 0))
 c1:w.cell? ⟨g,1,none⟩=some (.int .u64 (word S 1))
 c2:w.cell? ⟨g,2,none⟩=some (.int .u64 (word S 2))
 c3:w.cell? ⟨g,3,none⟩=some (.int .u64 (word S 3))
 c4:w.cell? ⟨g,4,none⟩=some (.int .u64 (word S 4))
 c5:w.cell? ⟨g,5,none⟩=some (.int .u64 (word S 5))
 c6:w.cell? ⟨g,6,none⟩=some (.int .u64 (word S 6))
 c7:w.cell? ⟨g,7,none⟩=some (.int .u64 (word S 7))
 f0:w.frozen? ⟨g,0,none⟩=false
 f1:w.frozen? ⟨g,1,none⟩=false
 f2:w.frozen? ⟨g,2,none⟩=false
 f3:w.frozen? ⟨g,3,none⟩=false
 f4:w.frozen? ⟨g,4,none⟩=false
 f5:w.frozen? ⟨g,5,none⟩=false
 f6:w.frozen? ⟨g,6,none⟩=false
 f7:w.frozen? ⟨g,7,none⟩=false
theorem cells8 {w:World} {g:Nat} {S:RS} (h:At w g S):Cells8 w g S:=
 ⟨qk h 0,qk h 1,qk h 2,qk h 3,qk h 4,qk h 5,qk h 6,qk h 7,
  blk_frozen h 0,blk_frozen h 1,blk_frozen h 2,blk_frozen h 3,blk_frozen h 4,blk_frozen h 5,blk_frozen h 6,blk_frozen h 7⟩
section
variable {ops:Array Oper} {rest:List Oper} {o:Oper} {a:Act} {Q:Exit→Act→World→Prop}
theorem setLoad_event {W:World} (hgd:o.guard=none) {N p:Tmp} (_hd:o.dst=some N) (ho:o.op= .load 64 (.tmp p)) {g:Nat} {S:RS} (hp:a.eval (.tmp p)= .pointer (some ⟨g,0,none⟩)) (hA:At W g S)
  (h:wpList Try.prog ops Q rest (a.put o.dst (setV S)) W):wpList Try.prog ops Q (o::rest) a W:=by
 refine Kd.event_run hgd (v:=setV S) (w1:=W) ?_ h;obtain ⟨h0,h1,h2,h3,h4,h5,h6,h7,_,_,_,_,_,_,_,_⟩:=cells8 hA;simp only [execOp,ho,hp];go_simp;rfl
theorem setStore_event {W:World} (hgd:o.guard=none) (hN:o.dst=none) {p:Tmp} {v:Operand} (ho:o.op= .store 64 (.tmp p) v) {g:Nat} {S T:RS} (hp:a.eval (.tmp p)= .pointer (some ⟨g,0,none⟩)) (hv:a.eval v=setV T) (hA:At W g S)
  (h:∀ w1,At w1 g T→W.grownBy w1 (some g)→wpList Try.prog ops Q rest a w1):wpList Try.prog ops Q (o::rest) a W:=by
 refine store_event hgd ho hN (w1:=put8 W g T) ?_ (fun w' he=>by subst he;exact h _ (put8_at hA T) (put8_grown W g T));obtain ⟨h0,h1,h2,h3,h4,h5,h6,h7,f0,f1,f2,f3,f4,f5,f6,f7⟩:=cells8 hA;simp only [execOp,ho,hp,hv,setV,cellsV,u64];go_simp;rfl
theorem setBox_event {W:World} (hgd:o.guard=none) {N:Tmp} (_hd:o.dst=some N) {v:Operand} (ho:o.op= .box 64 v) {S:RS} (hv:a.eval v=setV S)
  (h:∀ g w1,W.heap.size≤g→At w1 g S→Below W.heap.size W w1→wpList Try.prog ops Q rest (a.put o.dst (.pointer (some ⟨g,0,none⟩))) w1):wpList Try.prog ops Q (o::rest) a W:=by
 refine box_event hgd (N:=N) _hd (cs:=cellsV S) (t:=64) ?_ (fun g hg w1 h1 h2=>h g w1 (Nat.le_of_eq hg.symm) h1 h2);simp only [execOp,ho,hv,setV,cellsV,u64];go_simp
 first |done |rfl
theorem cells_none:cellsV none'= #[.int .u64 0,.int .u64 0,.int .u64 0,.int .u64 0,.int .u64 0,.int .u64 0,.int .u64 0,.int .u64 0]:=by
 simp only [cellsV,word_none,u64];rfl
theorem setAlloc_event {W:World} (hgd:o.guard=none) {N:Tmp} (_hd:o.dst=some N) (ho:o.op= .alloc 64)
  (h:∀ g w1,W.heap.size≤g→At w1 g none'→Below W.heap.size W w1→wpList Try.prog ops Q rest (a.put o.dst (.pointer (some ⟨g,0,none⟩))) w1):wpList Try.prog ops Q (o::rest) a W:=by
 refine box_event hgd (N:=N) _hd (cs:=cellsV none') (t:=64) ?_ (fun g hg w1 h1 h2=>h g w1 (Nat.le_of_eq hg.symm) h1 h2);rw [cells_none];simp only [execOp,ho];go_simp
 first |done |rfl
end
theorem has_calls (S:RS) (hS:Regs S) (r:Int) (w:World) :
  Calls Try.prog 31 #[setV S,.int .i64 r] w fun e w'=>e= .returned (.bool (S r))∧Below w.heap.size w w':=by
 by_cases hr:0≤r∧r<512
 ·obtain ⟨n,rfl⟩:∃ n:Nat,r=n:=⟨r.toNat,by omega⟩
  have hn:n<512:=by omega
  have hb0:decide ((0:Int)≤n)=true:=decide_eq_true (by omega);have hb1:decide ((n:Int)<512)=true:=decide_eq_true (by omega);obtain ⟨q,hq⟩:∃ q,q=n / 64:=⟨_,rfl⟩
  obtain ⟨m,hm⟩:∃ m,m=n % 64:=⟨_,rfl⟩
  have y1:IntKind.i64.wrap ((n:Int) / 64)=(q:Int):=by rw [IntKind.wrap_i64];omega
  have y2:(n:Int).tmod 64=(m:Int):=by rw [Int.tmod_eq_emod_of_nonneg (by omega)];omega
  have y3:(q:Int)<8:=by omega
  obtain ⟨b,hb⟩:∃ b:Nat,b=if S (n:Int)=true then 1 else 0:=⟨_,rfl⟩
  have y4:bits .and .u64 ((word S q:Nat) / 2 ^ min m 64) 1=(b:Int):=by
   have e1:((word S q:Nat):Int) / 2 ^ min m 64=((word S q / 2 ^ m:Nat):Int):=by
    rw [show min m 64=m by omega]
    simp
   have hlt:word S q / 2 ^ m<18446744073709551616:=Nat.lt_of_le_of_lt (Nat.div_le_self _ _) (word_lt _ _);rw [e1,show (1:Int)=((1:Nat):Int) from rfl,u64_and_nat _ _ hlt (by omega),nat_mask1,hq,hm,word_has S n,hb]
  have y5:((b:Int)==1)=S (n:Int):=by
   rw [hb];cases S (n:Int)<;>rfl
  clear hb hq hm hr
  go_enter Try.func31,Try.ntmps31
  go_wp2_with (first |(refine setBox_event rfl rfl rfl rfl ?_;intro g w1 hg hA hbl;have hc:w1.cell? ⟨g,q,none⟩=some (.int .u64 (word S q)):=by (rw [blk_cell hA];exact cellsV_get S _ (by omega)));have HBL:=ak hbl;clear hbl hA)
  go_ret
  exact ⟨rfl,HBL.out⟩
 ·have hno:S r=false:=by
   cases hs:S r with
   |false=>rfl
   |true=>exact absurd (hS r hs) (by rw [inR_false hr];decide)
  by_cases h0:0≤r
  ·have hb0:decide (0≤r)=true:=decide_eq_true h0;have hb1:decide (r<512)=false:=decide_eq_false (by omega);rw [hno];clear hr hno
   go_enter Try.func31,Try.ntmps31
   go_wp2_with (first |(refine setBox_event rfl rfl rfl rfl ?_;intro g w1 hg hA hbl;have HBL:=ak hbl;clear hbl hA))
   go_ret
   exact ⟨rfl,HBL.out⟩
  ·have hb0:decide (0≤r)=false:=decide_eq_false h0;rw [hno];clear hr hno
   go_enter Try.func31,Try.ntmps31
   go_wp2_with (first |(refine setBox_event rfl rfl rfl rfl ?_;intro g w1 hg hA hbl;have HBL:=ak hbl;clear hbl hA))
   go_ret
   exact ⟨rfl,HBL.out⟩
def joinTo (S T:RS) (i:Nat):RS:=fun x=>S x||(decide (x<(64*i:Nat))&&T x)
theorem joinTo_zero (S T:RS) (hT:Regs T):joinTo S T 0=S:=by
 funext x
 simp only [joinTo];cases ht:T x with
 |false=>simp
 |true =>
  have h:=hT x ht;simp only [inR,Bool.and_eq_true,decide_eq_true_eq] at h;have h2:decide (x<((64*0:Nat):Int))=false:=decide_eq_false (by omega);rw [h2];simp
theorem joinTo_all (S T:RS) (hT:Regs T):joinTo S T 8=join S T:=by
 funext x
 simp only [joinTo,join];cases ht:T x with
 |false=>simp
 |true =>
  have h:=hT x ht;simp only [inR,Bool.and_eq_true,decide_eq_true_eq] at h;have h2:decide (x<((64*8:Nat):Int))=true:=decide_eq_true (by omega);rw [h2];simp
theorem word_joinTo (S T:RS) (i k:Nat):word (joinTo S T i) k=if k<i then word (join S T) k else word S k:=by
 by_cases h:k<i
 ·rw [if_pos h];refine word_congr fun j hj=>?_
  have h2:decide (((64*k+j:Nat):Int)<(64*i:Nat))=true:=decide_eq_true (by omega);simp only [joinTo,join,h2,Bool.true_and]
 ·rw [if_neg h];refine word_congr fun j hj=>?_
  have h2:decide (((64*k+j:Nat):Int)<(64*i:Nat))=false:=decide_eq_false (by omega);simp only [joinTo,h2,Bool.false_and,Bool.or_false]
theorem joinTo_set (S T:RS) (i:Nat) (hi:i<8):(cellsV (joinTo S T i)).setIfInBounds i (u64 (word (join S T) i))=cellsV (joinTo S T (i+1)):=by
 have h1:word (joinTo S T (i+1)) i=word (join S T) i:=by rw [word_joinTo,if_pos (by omega)]
 rw [←h1];refine cellsV_set _ _ i hi fun k hk=>?_
 by_cases he:k=i
 ·rw [if_pos he,he]
 ·rw [if_neg he,word_joinTo,word_joinTo]
  by_cases hlt:k<i
  ·rw [if_pos hlt,if_pos (by omega)]
  ·rw [if_neg hlt,if_neg (by omega)]
structure St3 (w W:World) (a b c:Nat) (S T Z:RS):Prop where
 below:Below w.heap.size w W
 sa:At W a S
 sb:At W b T
 sc:At W c Z
 ab:a≠b
 ac:a≠c
 bc:b≠c
 la:w.heap.size≤a
 lb:w.heap.size≤b
 lc:w.heap.size≤c
theorem at_ne {W W1:World} {a b:Nat} {S:RS} (h:At W a S) (hle:W.heap.size≤b):a≠b:=by have:=blk_lt h;omega
theorem St3.putA {w W W1:World} {a b c:Nat} {S T Z S1:RS} (h:St3 w W a b c S T Z) (h1:At W1 a S1) (hg:W.grownBy W1 (some a)):St3 w W1 a b c S1 T Z:=
 ⟨h.below.grown hg h.below.size (fun k hk=>by cases hk;exact h.la),h1,at_grown h.sb hg (by intro he;cases he;exact h.ab rfl),at_grown h.sc hg (by intro he;cases he;exact h.ac rfl),h.ab,h.ac,h.bc,h.la,h.lb,h.lc⟩
theorem St3.putC {w W W1:World} {a b c:Nat} {S T Z Z1:RS} (h:St3 w W a b c S T Z) (h1:At W1 c Z1) (hg:W.grownBy W1 (some c)):St3 w W1 a b c S T Z1:=
 ⟨h.below.grown hg h.below.size (fun k hk=>by cases hk;exact h.lc),at_grown h.sa hg (by intro he;cases he;exact h.ac rfl),at_grown h.sb hg (by intro he;cases he;exact h.bc rfl),h1,h.ab,h.ac,h.bc,h.la,h.lb,h.lc⟩
theorem with_calls (S T:RS) (hT:Regs T) (w:World) :
  Calls Try.prog 52 #[setV S,setV T] w fun e w'=>e= .returned (setV (join S T))∧Below w.heap.size w w':=by
 have HT:=ak hT;clear hT
 go_enter Try.func52,Try.ntmps52
 go_wp2_with (first
  |((with_reducible refine gate_dst (N:=2) rfl ?_);refine setBox_event rfl rfl rfl rfl ?_;intro ga w1 hga hA1 hb1;have HG1:=ak hga;have HA1:=ak hA1;have HB1:=ak hb1;clear hga hA1 hb1)
  |((with_reducible refine gate_dst (N:=3) rfl ?_);refine setBox_event rfl rfl rfl rfl ?_;intro gb w2 hgb hA2 hb2;have HG2:=ak hgb;have HA2:=ak hA2;have HB2:=ak hb2;clear hgb hA2 hb2)
  |((with_reducible refine gate_dst (N:=4) rfl ?_);refine setAlloc_event rfl rfl rfl ?_;intro gc w3 hgc hA3 hb3;have HG3:=ak hgc;have HA3:=ak hA3;have HB3:=ak hb3;clear hgc hA3 hb3))
 have H0:Aside0 (St3 w w3 ga gb gc (joinTo S T 0) T none'):=⟨by
  rw [joinTo_zero S T HT.out];have b12:=below_step HB1.out HB2.out;have a2:=at_below HA1.out HB2.out;exact ⟨below_step b12 HB3.out,at_below a2 HB3.out,at_below HA2.out HB3.out,HA3.out,at_ne (W1:=w) HA1.out HG2.out,at_ne (W1:=w) a2 HG3.out,at_ne (W1:=w) HA2.out HG3.out,HG1.out,Nat.le_trans HB1.out.size HG2.out,Nat.le_trans b12.size HG3.out⟩⟩
 clear HG1 HG2 HG3 HA1 HA2 HA3 HB1 HB2 HB3
 go_loopw [6] (fun i wr=>∃ (k:Nat),k≤8∧i= .int .i64 k∧Aside0 (St3 w wr ga gb gc (joinTo S T k) T none')) (fun i _=>8-(intOf i).toNat)
 case atStart=>exact ⟨0,by omega,rfl,H0⟩
 case round =>
  clear H0;obtain ⟨k,hk,rfl,HS⟩:=hrel
  by_cases hlt:k<8
  ·have hc1:wr.cell? ⟨ga,k,none⟩=some (.int .u64 (word S k)):=by
    rw [blk_cell HS.out.sa,cellsV_get _ k hlt,word_joinTo,if_neg (by omega)];rfl
   have hf1:wr.frozen? ⟨ga,k,none⟩=false:=blk_frozen HS.out.sa k;have hc2:wr.cell? ⟨gb,k,none⟩=some (.int .u64 (word T k)):=by
    rw [blk_cell HS.out.sb,cellsV_get _ k hlt];rfl
   have y:bits .or .u64 (word S k:Nat) (word T k:Nat)=(word (join S T) k:Nat):=by rw [u64_or_nat _ _ (word_lt _ _) (word_lt _ _),word_join]
   have hset:Aside0 ((cellsV (joinTo S T k)).setIfInBounds k (u64 (word (join S T) k))=cellsV (joinTo S T (k+1))):=⟨joinTo_set S T k hlt⟩
   generalize word (join S T) k=z at y hset;generalize word S k=x at *;generalize word T k=x2 at *;have y8:(k:Int)<8:=by omega
   go_wp2
   go_region_with (fail)
   all_goals (
    go_wp2
    go_roundw
    case rel=>exact ⟨k+1,by omega,by go_num,⟨HS.out.putA (blk_put HS.out.sa k _ hset.out) (grown_drew (grown_set _ _ _ _))⟩⟩
    case measure=>simp [intOf];omega)
  ·obtain rfl:k=8:=by omega
   rw [joinTo_all S T HT.out] at HS
   go_wp2_with (first
    |(refine setLoad_event rfl rfl rfl rfl HS.out.sa ?_)
    |(refine setStore_event rfl rfl rfl rfl rfl HS.out.sc ?_;intro w4 hA4 hg4;have HN:=ak (HS.out.putC hA4 hg4);clear hA4 hg4))
   refine bodyPost_ret (results_cell_row rfl _ _ gc 64 (cellsV (join S T)) (0,0) _ rfl HN.out.sc Try.underlying64 rfl (by kernel_rfl)) rfl ?_;exact ⟨rfl,HN.out.below⟩
end Go.Proofs.Ytklknkfoafdgpaa.LiveSet
