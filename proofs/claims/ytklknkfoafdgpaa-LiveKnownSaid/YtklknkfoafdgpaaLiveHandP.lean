import Derived.Test.YtklknkfoafdgpaaLiveFind
import Derived.Test.YtklknkfoafdgpaaPLiveKnownx1
import Derived.Test.YtklknkfoafdgpaaPLiveKnownx14
import Derived.Test.YtklknkfoafdgpaaPLiveKnownx16
import Derived.Test.YtklknkfoafdgpaaPLiveKnownx10
import Derived.Test.YtklknkfoafdgpaaLiveRunW
namespace Go.Proofs.Ytklknkfoafdgpaa.LiveRefP
open RowKit YtklknkfoafdgpaaW.PrintWords YtklknkfoafdgpaaW.PrintLast YtklknkfoafdgpaaW.PrintMore
open PLiveKnown LiveT LiveB LiveInv LiveSet LiveEnd LiveAhead LiveSettled LiveCopied LiveRunP LiveSame LiveFit LiveAft LiveAsked LiveNoth LiveFindP LiveFindQ LiveFind
set_option linter.unusedVariables false
set_option linter.unusedSimpArgs false
theorem loop_copy {α β:Type} (l:List α) (g:Nat→List α→Int→Option β) (r:β) (hstop:Ev (fun k=>g k l (l.length:Int)) r)
  (hstep:∀ i (h:i<l.length),Ev (fun k=>g k (l.take i++[l[i]]) ((i+1:Nat):Int)) r→Ev (fun k=>g k (l.take i) (i:Int)) r):Ev (fun k=>g k [] 0) r:=by
 have key:∀ d i,l.length-i=d→i≤l.length→Ev (fun k=>g k (l.take i) (i:Int)) r:=by
  intro d
  induction d with
  |zero =>
   intro i hd hi;obtain rfl:i=l.length:=by omega
   rw [List.take_length];exact hstop
  |succ d ih =>
   intro i hd hi;have h1:i<l.length:=by omega
   refine hstep i h1 ?_;have h2:=ih (i+1) (by omega) (by omega);rw [List.take_add_one,List.getElem?_eq_getElem h1] at h2;exact h2
 exact key _ 0 rfl (Nat.zero_le _)
theorem copyOpnds_ev (l:List S82) (hl:l.length*16≤140737488355328):Ev (fun k=>zCopyOpnds.f k l) l:=by
 unfold zCopyOpnds.f;refine loop_copy l (fun k acc i=>zCopyOpnds.l0 k l acc i) l (Ev.step (fun k=>by simp only [zCopyOpnds.l0];rw [if_neg (by omega)]) (Ev.now _)) (fun i h hr=>Ev.step (fun k=>?_) hr);simp only [zCopyOpnds.l0];rw [if_pos (by omega),if_pos (by omega),if_pos (by rw [List.length_take];omega),rd82 l i h,wrap_nat i _ h (by omega)]
theorem copyInts_ev (l:List Int) (hl:l.length*8≤140737488355328):Ev (fun k=>zCopyInts.f k l) l:=by
 unfold zCopyInts.f;refine loop_copy l (fun k acc i=>zCopyInts.l0 k l acc i) l (Ev.step (fun k=>by simp only [zCopyInts.l0];rw [if_neg (by omega)]) (Ev.now _)) (fun i h hr=>Ev.step (fun k=>?_) hr);simp only [zCopyInts.l0];rw [if_pos (by omega),if_pos (by omega),if_pos (by rw [List.length_take];omega),rdI l i h,wrap_nat i _ h (by omega)]
theorem copyShapes_ev (l:List S78) (hl:l.length*40≤140737488355328) (hs:∀ k,k<l.length→(rd_T78 l k).f2.length*16≤140737488355328):Ev (fun k=>zCopyShapes.f k l) l:=by
 unfold zCopyShapes.f;refine loop_copy l (fun k acc i=>zCopyShapes.l0 k l acc i) l (Ev.step (fun k=>by simp only [zCopyShapes.l0];rw [if_neg (by omega)]) (Ev.now _)) (fun i h hr=>?_);have h3:=hs i h;rw [rd78 l i h] at h3;refine Ev.step (f:=fun k=>(zCopyOpnds.f k l[i].f2).bind fun t=>zCopyShapes.l0 k l (l.take i++[(⟨l[i].f0,l[i].f1,t⟩:S78)]) ((i+1:Nat):Int)) (fun k=>?_) (Ev.bind (copyOpnds_ev _ h3) hr);simp only [zCopyShapes.l0];rw [if_pos (by omega),if_pos (by omega),rd78 l i h,wrap_nat i _ h (by omega)]
 congr 1
 funext t
 rw [if_pos (by rw [List.length_take];omega)]
def tup47 (x:S47):Int×Int×Int×(List (S82))×Int×Int×Int×(List (S78)):=(x.f0,x.f1,x.f2,x.f3,x.f4,x.f5,x.f6,x.f7)
theorem copyIns_ev (x:S47) (hx:Fit47 x):Ev (fun k=>zCopyIns.f k x.f0 x.f1 x.f2 x.f3 x.f4 x.f5 x.f6 x.f7) (tup47 x):=by
 unfold zCopyIns.f;exact Ev.bind (copyOpnds_ev _ hx.args) (Ev.bind (copyShapes_ev _ hx.exits hx.slots) (Ev.now _))
theorem copyIns_calls (x:S47) (A3:Option Addr) (c3:Nat) (A7:Option Addr) (c7:Nat) (w:World) (h:RIn w x A3 c3 A7 c7) (hf:Fit47 x) :
  Calls Try.prog 18 #[v47 x A3 c3 A7 c7] w fun e w'=>∃ v3 v7,e= .returned (.agg (row47 x v3 v7))∧Kd.R k82 82 w' w.heap.size (fun _=>True) v3 x.f3∧Kd.R k78 78 w' w.heap.size (fun k=>some k≠v3.ownBlock) v7 x.f7∧Below w.heap.size w w':=by
 obtain ⟨k,hk⟩:=(copyIns_ev x hf).rounds;refine (zCopyIns.calls k x.f0 x.f1 x.f2 A3 c3 x.f3 x.f4 x.f5 x.f6 A7 c7 x.f7 x.f0 x.f1 x.f2 x.f3 x.f4 x.f5 x.f6 x.f7 w h.r3 h.l3 h.r7 h.l7 hk).mono ?_;rintro e w' ⟨v3,v7,he,h3,h7,hb⟩;exact ⟨v3,v7,he,h3,Kd.S_R h7,hb⟩
theorem rd11_fl3 (n:Nat) (L:Nat→Nat) (f:Nat→Nat→RS) (b i:Nat) (hb:b<n) (hi:i<L b):(rd_L11 (fl3 n L f) (b:Int)).length=L b∧rd_L10 (rd_L11 (fl3 n L f) (b:Int)) (i:Int)=maskL (f b i):=by
 have h1:rd_L11 (fl3 n L f) (b:Int)=(List.range (L b)).map fun i=>maskL (f b i):=by
  simp [rd_L11,fl3,List.getD_eq_getElem?_getD,hb]
 rw [h1];refine ⟨by simp,?_⟩
 simp [rd_L10,List.getD_eq_getElem?_getD,hi]
theorem idle_calls {W:World} {base:Nat} {bs:List S43} {A:Option Addr} {c:Nat} {vs:Nat→Value} {H:Nat→Nat→Nat} {f:Nat→Nat→RS} (fn rg:Int) (Ab:Option Addr) (cb:Nat) (hC:Kd.C k43 W Ab bs.length bs) (hcb:bs.length≤cb) (h:W3 W base bs.length (.slice A bs.length c) (rowsOf bs) vs H f) (b i:Nat) (hb:b<bs.length) (hi:i<(insOf bs b).length) (hr:Regs (f b (i+1))) :
  Calls Try.prog 34 #[.agg #[.int .i64 fn,.int .i64 rg,.slice Ab bs.length cb],.slice A bs.length c,.int .i64 b,.int .i64 i] W fun e w'=>e= .returned (.bool (idle (iOf (rd_T47 (insOf bs b) i)) (f b (i+1))))∧Below W.heap.size W w':=by
 obtain ⟨A',c',hv,hc,hC3⟩:=W3.C h;injection hv with h1 h2 h3;subst h1;subst h3;have hl:=fl3_length bs.length (rowsOf bs) f;have hm:(insOf bs b).length≤9223372036854775807:=by
  obtain ⟨ad,A1,c1,A2,c2,e,hx0,hx1,hx2,l1,hg1,l2,hg2⟩:=rd_block hC (Below.refl _ W) b hb;exact Kd.C_max hg1
 have hw:wrap64 ((i:Int)+1)=((i+1:Nat):Int):=wrap_nat i _ hi hm;obtain ⟨e1,e2⟩:=rd11_fl3 bs.length (rowsOf bs) f b (i+1) hb (by unfold rowsOf;unfold insOf at hi;omega);have hrow:rowsOf bs b=(insOf bs b).length+1:=rfl;have hk:zIdle.f fn rg bs (fl3 bs.length (rowsOf bs) f) (b:Int) (i:Int)=some (idle (iOf (rd_T47 (insOf bs b) i)) (f b (i+1))):=by
  unfold zIdle.f;have hI:(rd_T43 bs (b:Int)).f1=insOf bs b:=rfl;rw [hI,if_pos (by omega),if_pos (by omega),if_pos (by omega),if_pos (by omega)];rw [quiet_eq,Option.bind_some];cases hq:q47 (rd_T47 (insOf bs b) (i:Int)) with
  |false =>
   rw [if_neg (by decide)];simp only [idle,iOf,hq,Bool.false_and]
  |true =>
   rw [if_pos rfl,if_pos (by rw [hl];omega),hw,if_pos (by omega),if_pos (by rw [e1,hrow];omega),e2,in_eq _ hr,Option.bind_some];simp only [idle,iOf,hq,Bool.true_and]
 have h2:=zIdle.calls fn rg Ab cb bs A c (fl3 bs.length (rowsOf bs) f) b i _ W hC hcb (by rw [hl];exact hC3) (by rw [hl];exact hc) hk;rw [hl] at h2;exact h2
end Go.Proofs.Ytklknkfoafdgpaa.LiveRefP
namespace Go.Proofs.Ytklknkfoafdgpaa.LiveHandP
open RowKit YtklknkfoafdgpaaW.PrintWords YtklknkfoafdgpaaW.PrintLast YtklknkfoafdgpaaW.PrintMore
open PLiveKnown LiveT LiveB LiveInv LiveSet LiveAhead LiveEnd LiveSettled LiveCopied LiveAft LiveRunP LiveSame LiveFit LiveEvt LiveRefP
set_option linter.unusedVariables false
set_option linter.unusedSimpArgs false
structure Kp (T:List Nat) (w w1:World):Prop where
 size:w.heap.size≤w1.heap.size
 keep:∀ (k:Nat) (cs:Array Value) (t:Nat) (z:Nat×Nat),w.heap[k]? =some (.cells cs t z)→t∉T→w1.heap[k]? =w.heap[k]?
section
variable {T:List Nat} {w w1 w2:World}
theorem Kp.refl (T:List Nat) (w:World):Kp T w w:=⟨Nat.le_refl _,fun _ _ _ _ _ _=>rfl⟩
theorem Kp.trans (h:Kp T w w1) (h2:Kp T w1 w2):Kp T w w2:=
 ⟨Nat.le_trans h.size h2.size,fun k cs t z hk ht=>by
  have h1:=h.keep k cs t z hk ht;rw [h2.keep k cs t z (h1.trans hk) ht,h1]⟩
theorem Kp.of_below (T:List Nat) (hb:Below w.heap.size w w1):Kp T w w1:=⟨hb.size,fun k _ _ _ hk _=>hb.block k (blk_lt hk)⟩
theorem Kp.of_grown {row:Option Nat} (hg:w.grownBy w1 row) (ht:∀ k,row=some k→∃ cs t,w.heap[k]? =some (.cells cs t (0,0))∧t∈T):Kp T w w1:=
 ⟨hg.size,fun k cs t z hk hT=>hg.block k (blk_lt hk) (fun he=>by
  obtain ⟨cs',t',hk',ht'⟩:=ht k he.symm;rw [hk'] at hk;injection hk with hk;injection hk with _ hk;subst hk;exact hT ht')⟩
theorem Kp.set {g:Nat} {cs:Array Value} {t:Nat} (h:Kp T w w1) (hg:w1.heap[g]? =some (.cells cs t (0,0))) (ht:t∈T) (j:Nat) (u:Value):Kp T w (w1.setCell ⟨g,j,none⟩ u):=
 h.trans ⟨by simp,fun k cs' t' z hk hT=>Below.heap_setCell w1 ⟨g,j,none⟩ u k (fun he=>by
  rw [show k=g from he,hg] at hk;injection hk with hk;injection hk with _ hk;subst hk;exact hT ht)⟩
theorem Kp.far_set {g:Nat} (h:Kp T w w1) (hg:w.heap.size≤g) (j:Nat) (u:Value):Kp T w (w1.setCell ⟨g,j,none⟩ u):=
 ⟨by have:=h.size;simpa using this,fun k cs t z hk hT=>(Below.heap_setCell w1 ⟨g,j,none⟩ u k (fun he=>by have:=blk_lt hk;have:k=g:=he;omega)).trans (h.keep k cs t z hk hT)⟩
theorem Kp.far_row {row:Option Nat} (h:Kp T w w1) (hg:w1.grownBy w2 row) (hr:∀ k,row=some k→w.heap.size≤k):Kp T w w2:=
 ⟨Nat.le_trans h.size hg.size,fun k cs t z hk hT=>(hg.block k (Nat.lt_of_lt_of_le (blk_lt hk) h.size) (fun he=>by have:=blk_lt hk;have:=hr k he.symm;omega)).trans (h.keep k cs t z hk hT)⟩
theorem Kp.blk {g:Nat} {cs:Array Value} {t:Nat} (h:Kp T w w1) (hg:w.heap[g]? =some (.cells cs t (0,0))) (ht:t∉T):w1.heap[g]? =some (.cells cs t (0,0)):=(h.keep g cs t _ hg ht).trans hg
theorem Kp.row {α:Type} {d:Kd α} {e base:Nat} {ok:Nat→Prop} {v:Value} {xs:List α} (h:Kp T w w1) (hr:d.R e w base ok v xs) (ht:∀ q,q∈e::d.E→q∉T):d.R e w1 base ok v xs:=
 Kd.R_mono (Kd.R_move (Kd.R_bound hr) (fun k hk=>by
  obtain ⟨_,_,_,q,hq,cells,hc⟩:=hk;exact h.keep k cells q _ hc (ht q hq))) (fun _ hk=>hk.1)
end
section
variable {α β:Type} {d:Kd α} {d':Kd β} {e e' b b':Nat} {ok ok':Nat→Prop} {W W1:World} {u v:Value} {xs:List α} {ys:List β}
theorem row_or (h:d.R e W b ok u xs) (hv:d'.R e' W b' ok' v ys) (hg:W.grownBy W1 v.ownBlock) (hor:(∀ q,q∈e::d.E→q≠e')∨∀ k,ok k→some k≠v.ownBlock):d.R e W1 b ok u xs:=by
 rcases hor with ht |hl
 ·exact Kd.R_over h hv ht hg
 ·exact Kd.R_grown h hg hl
theorem row_set {g t:Nat} {cs:Array Value} (h:d.R e W b ok u xs) (hb:W.heap[g]? =some (.cells cs t (0,0))) (hor:(∀ q,q∈e::d.E→q≠t)∨∀ k,ok k→k≠g) (j:Nat) (x:Value):d.R e (W.setCell ⟨g,j,none⟩ x) b ok u xs:=by
 rcases hor with ht |hl
 ·exact Kd.R_set h hb ht j x
 ·exact Kd.R_far h hl x
theorem over_S (h:Kd.S d e W b ok u xs) (hv:d'.R e' W b' ok' v ys) (ht:∀ q,q∈e::d.E→q≠e') (hg:W.grownBy W1 v.ownBlock):Kd.S d e W1 b ok u xs:=by
 obtain ⟨f,h⟩:=h;exact ⟨f,Kd.R_over h hv ht hg⟩
theorem row_orS (h:Kd.S d e W b ok u xs) (hv:d'.R e' W b' ok' v ys) (hg:W.grownBy W1 v.ownBlock) (hor:(∀ q,q∈e::d.E→q≠e')∨∀ k,ok k→some k≠v.ownBlock):Kd.S d e W1 b ok u xs:=by
 obtain ⟨f,h⟩:=h;exact ⟨f,row_or h hv hg hor⟩
theorem row_setS {g t:Nat} {cs:Array Value} (h:Kd.S d e W b ok u xs) (hb:W.heap[g]? =some (.cells cs t (0,0))) (hor:(∀ q,q∈e::d.E→q≠t)∨∀ k,ok k→k≠g) (j:Nat) (x:Value):Kd.S d e (W.setCell ⟨g,j,none⟩ x) b ok u xs:=by
 obtain ⟨f,h⟩:=h;exact ⟨f,row_set h hb hor j x⟩
end
def m82:List S82:=(List.range 16).map fun (i:Nat)=>⟨-7,(i:Int)⟩
def m78:List S78:=(List.range 16).map fun (i:Nat)=>⟨-7,(i:Int),[]⟩
def m47:List S47:=(List.range 16).map fun (i:Nat)=>⟨-7,0,0,[],0,(i:Int),0,[]⟩
def mI:List Int:=(List.range 16).map fun (i:Nat)=> -7-(i:Int)
def m43:List S43:=(List.range 16).map fun (i:Nat)=>⟨-7-(i:Int),[],[]⟩
def hand34 (vO vS vN vI vB:Value):Array Value:= #[.int .i64 0,.int .i64 0,.slice none 0 0,vO,vS,vN,vI,vB]
structure HD (w0 W:World) (gh:Nat) (vO vS vN vI vB:Value) (oss:List (List S82)) (sss:List (List S78)) (nss:List (List Int)) (iss:List (List S47)) (bss:List S43) (lS lN lI lB:Nat):Prop where
 below:Below w0.heap.size w0 W
 blk:W.heap[gh]? =some (.cells (hand34 vO vS vN vI vB) 34 (0,0))
 O:Kd.R (Kd.slice 82 k82) 44 W w0.heap.size (fun _=>True) vO oss
 S:Kd.R (Kd.slice 78 k78) 45 W w0.heap.size (fun k=>k<lS) vS sss
 N:Kd.R (Kd.slice 3 (Kd.int .i64)) 25 W w0.heap.size (fun k=>k<lN) vN nss
 I:Kd.R (Kd.slice 47 k47) 41 W w0.heap.size (fun k=>k<lI) vI iss
 B:Kd.S k43 43 W w0.heap.size (fun k=>k<lB) vB bss
 low:w0.heap.size≤gh
section
variable {w0 W W1:World} {gh:Nat} {vO vS vN vI vB:Value} {oss:List (List S82)} {sss:List (List S78)} {nss:List (List Int)} {iss:List (List S47)} {bss:List S43} {lS lN lI lB:Nat}
theorem HD.next (h:HD w0 W gh vO vS vN vI vB oss sss nss iss bss lS lN lI lB) (hb:Below W.heap.size W W1):HD w0 W1 gh vO vS vN vI vB oss sss nss iss bss lS lN lI lB:=
 ⟨below_step h.below hb,(hb.block gh (blk_lt h.blk)).trans h.blk,Kd.R_below h.O hb,Kd.R_below h.S hb,Kd.R_below h.N hb,Kd.R_below h.I hb,Kd.S_below h.B hb,h.low⟩
theorem HD.bound (h:HD w0 W gh vO vS vN vI vB oss sss nss iss bss lS lN lI lB):HD w0 W gh vO vS vN vI vB oss sss nss iss bss W.heap.size W.heap.size W.heap.size W.heap.size:=
 ⟨h.below,h.blk,h.O,Kd.R_mono (Kd.R_bound h.S) (fun _ hk=>hk.2.2.1),Kd.R_mono (Kd.R_bound h.N) (fun _ hk=>hk.2.2.1),Kd.R_mono (Kd.R_bound h.I) (fun _ hk=>hk.2.2.1),Kd.S_mono (Kd.S_bound h.B) (fun _ hk=>hk.2.2.1),h.low⟩
theorem HD.over {β:Type} {d':Kd β} {e' b':Nat} {ok':Nat→Prop} {v:Value} {ys:List β} (h:HD w0 W gh vO vS vN vI vB oss sss nss iss bss lS lN lI lB) (hv:d'.R e' W b' ok' v ys) (hg:W.grownBy W1 v.ownBlock) (hb:Below w0.heap.size w0 W1)
  (h34:e'≠34) (hO:∀ q,q∈[44,82]→q≠e') (hl:∀ k,v.ownBlock=some k→lN≤k∧lI≤k∧lB≤k) (hS:(∀ q,q∈[45,78,82]→q≠e')∨∀ k,v.ownBlock=some k→lS≤k) :
  HD w0 W1 gh vO vS vN vI vB oss sss nss iss bss lS lN lI lB:=
 ⟨hb,blk_grown h.blk hg (Kd.R_ne hv h.blk h34),Kd.R_over h.O hv hO hg,row_or h.S hv hg (hS.imp (fun h=>h) (fun h k hk he=>by have:=h k he.symm;omega)),
  row_or h.N hv hg (.inr fun k hk he=>by have:=(hl k he.symm).1;omega),row_or h.I hv hg (.inr fun k hk he=>by have:=(hl k he.symm).2.1;omega),row_orS h.B hv hg (.inr fun k hk he=>by have:=(hl k he.symm).2.2;omega),h.low⟩
theorem HD.far {g t:Nat} {cs:Array Value} (h:HD w0 W gh vO vS vN vI vB oss sss nss iss bss lS lN lI lB) (hg:W.heap[g]? =some (.cells cs t (0,0))) (h0:w0.heap.size≤g) (h34:t≠34) (hO:∀ q,q∈[44,82]→q≠t) (hl:lN≤g∧lI≤g∧lB≤g)
  (hS:(∀ q,q∈[45,78,82]→q≠t)∨lS≤g) (j:Nat) (u:Value):HD w0 (W.setCell ⟨g,j,none⟩ u) gh vO vS vN vI vB oss sss nss iss bss lS lN lI lB:=
 ⟨h.below.setCell h0 u,blk_far h.blk (fun he=>by
   have h2:=hg;rw [←show gh=g from he,h.blk] at h2;injection h2 with h2;injection h2 with _ h2;exact h34 h2.symm) u,row_set h.O hg (.inl hO) j u,row_set h.S hg (hS.imp (fun h=>h) (fun h k hk=>by omega)) j u,
  row_set h.N hg (.inr fun k hk=>by omega) j u,row_set h.I hg (.inr fun k hk=>by omega) j u,row_setS h.B hg (.inr fun k hk=>by omega) j u,h.low⟩
theorem HD.pushO {v1:Value} {oss1:List (List S82)} (h:HD w0 W gh vO vS vN vI vB oss sss nss iss bss lS lN lI lB) (hO:Kd.R (Kd.slice 82 k82) 44 W1 w0.heap.size (fun _=>True) v1 oss1) (hb:Below w0.heap.size w0 W1) (hg:W.grownBy W1 vO.ownBlock) :
  HD w0 (W1.setCell ⟨gh,3,none⟩ v1) gh v1 vS vN vI vB oss1 sss nss iss bss lS lN lI lB:=by
 have h34:=blk_grown h.blk hg (Kd.R_ne h.O h.blk (by decide));exact ⟨hb.setCell h.low v1,blk_put h34 3 _ rfl,Kd.R_set hO h34 (by decide) 3 v1,Kd.R_set (Kd.R_over h.S h.O (by decide) hg) h34 (by decide) 3 v1,Kd.R_set (Kd.R_over h.N h.O (by decide) hg) h34 (by decide) 3 v1,
  Kd.R_set (Kd.R_over h.I h.O (by decide) hg) h34 (by decide) 3 v1,Kd.S_set (over_S h.B h.O (by decide) hg) h34 (by decide) 3 v1,h.low⟩
theorem HD.pushS {v1:Value} {sss1:List (List S78)} (h:HD w0 W gh vO vS vN vI vB oss sss nss iss bss lS lN lI lB) (hS:Kd.R (Kd.slice 78 k78) 45 W1 w0.heap.size (fun _=>True) v1 sss1) (hb:Below w0.heap.size w0 W1) (hg:W.grownBy W1 vS.ownBlock) :
  HD w0 (W1.setCell ⟨gh,4,none⟩ v1) gh vO v1 vN vI vB oss sss1 nss iss bss W1.heap.size lN lI lB:=by
 have h34:=blk_grown h.blk hg (Kd.R_ne h.S h.blk (by decide));exact ⟨hb.setCell h.low v1,blk_put h34 4 _ rfl,Kd.R_set (Kd.R_over h.O h.S (by decide) hg) h34 (by decide) 4 v1,Kd.R_mono (Kd.R_bound (Kd.R_set hS h34 (by decide) 4 v1)) (fun k hk=>by have:=hk.2.2.1;simpa using this),Kd.R_set (Kd.R_over h.N h.S (by decide) hg) h34 (by decide) 4 v1,
  Kd.R_set (Kd.R_over h.I h.S (by decide) hg) h34 (by decide) 4 v1,Kd.S_set (over_S h.B h.S (by decide) hg) h34 (by decide) 4 v1,h.low⟩
theorem HD.pushN {v1:Value} {nss1:List (List Int)} (h:HD w0 W gh vO vS vN vI vB oss sss nss iss bss lS lN lI lB) (hN:Kd.R (Kd.slice 3 (Kd.int .i64)) 25 W1 w0.heap.size (fun _=>True) v1 nss1) (hb:Below w0.heap.size w0 W1) (hg:W.grownBy W1 vN.ownBlock) :
  HD w0 (W1.setCell ⟨gh,5,none⟩ v1) gh vO vS v1 vI vB oss sss nss1 iss bss lS W1.heap.size lI lB:=by
 have h34:=blk_grown h.blk hg (Kd.R_ne h.N h.blk (by decide));exact ⟨hb.setCell h.low v1,blk_put h34 5 _ rfl,Kd.R_set (Kd.R_over h.O h.N (by decide) hg) h34 (by decide) 5 v1,Kd.R_set (Kd.R_over h.S h.N (by decide) hg) h34 (by decide) 5 v1,Kd.R_mono (Kd.R_bound (Kd.R_set hN h34 (by decide) 5 v1)) (fun k hk=>by have:=hk.2.2.1;simpa using this),
  Kd.R_set (Kd.R_over h.I h.N (by decide) hg) h34 (by decide) 5 v1,Kd.S_set (over_S h.B h.N (by decide) hg) h34 (by decide) 5 v1,h.low⟩
theorem HD.pushI {v1:Value} {iss1:List (List S47)} (h:HD w0 W gh vO vS vN vI vB oss sss nss iss bss lS lN lI lB) (hI:Kd.R (Kd.slice 47 k47) 41 W1 w0.heap.size (fun _=>True) v1 iss1) (hb:Below w0.heap.size w0 W1) (hg:W.grownBy W1 vI.ownBlock) :
  HD w0 (W1.setCell ⟨gh,6,none⟩ v1) gh vO vS vN v1 vB oss sss nss iss1 bss lS lN W1.heap.size lB:=by
 have h34:=blk_grown h.blk hg (Kd.R_ne h.I h.blk (by decide));exact ⟨hb.setCell h.low v1,blk_put h34 6 _ rfl,Kd.R_set (Kd.R_over h.O h.I (by decide) hg) h34 (by decide) 6 v1,Kd.R_set (Kd.R_over h.S h.I (by decide) hg) h34 (by decide) 6 v1,Kd.R_set (Kd.R_over h.N h.I (by decide) hg) h34 (by decide) 6 v1,
  Kd.R_mono (Kd.R_bound (Kd.R_set hI h34 (by decide) 6 v1)) (fun k hk=>by have:=hk.2.2.1;simpa using this),Kd.S_set (over_S h.B h.I (by decide) hg) h34 (by decide) 6 v1,h.low⟩
theorem HD.pushB {v1:Value} {bss1:List S43} (h:HD w0 W gh vO vS vN vI vB oss sss nss iss bss lS lN lI lB) (hB:Kd.S k43 43 W1 w0.heap.size (fun _=>True) v1 bss1) (hb:Below w0.heap.size w0 W1) (hg:W.grownBy W1 vB.ownBlock) :
  HD w0 (W1.setCell ⟨gh,7,none⟩ v1) gh vO vS vN vI v1 oss sss nss iss bss1 lS lN lI W1.heap.size:=by
 have h34:=blk_grown h.blk hg (Kd.S_ne h.B h.blk (by decide));exact ⟨hb.setCell h.low v1,blk_put h34 7 _ rfl,Kd.R_set (Kd.R_over h.O (Kd.S_R h.B) (by decide) hg) h34 (by decide) 7 v1,Kd.R_set (Kd.R_over h.S (Kd.S_R h.B) (by decide) hg) h34 (by decide) 7 v1,Kd.R_set (Kd.R_over h.N (Kd.S_R h.B) (by decide) hg) h34 (by decide) 7 v1,
  Kd.R_set (Kd.R_over h.I (Kd.S_R h.B) (by decide) hg) h34 (by decide) 7 v1,Kd.S_mono (Kd.S_bound (Kd.S_set hB h34 (by decide) 7 v1)) (fun k hk=>by have:=hk.2.2.1;simpa using this),h.low⟩
end
theorem infoO:(Try.prog.info? 44).map (fun i=>(i.zero,i.size,i.bytes))=some (some (.slice none 0 0),1,24):=by kernel_rfl
theorem infoS:(Try.prog.info? 45).map (fun i=>(i.zero,i.size,i.bytes))=some (some (.slice none 0 0),1,24):=by kernel_rfl
theorem infoN:(Try.prog.info? 25).map (fun i=>(i.zero,i.size,i.bytes))=some (some (.slice none 0 0),1,24):=by kernel_rfl
theorem infoIn:(Try.prog.info? 41).map (fun i=>(i.zero,i.size,i.bytes))=some (some (.slice none 0 0),1,24):=by kernel_rfl
theorem marked_ev (l:List S82) (hl:(l.length+16)*16≤140737488355328):Ev (fun k=>zmarkedOpnds.f k l) (l++m82):=by
 unfold zmarkedOpnds.f;refine loop_copy l (fun k acc i=>zmarkedOpnds.l0 k l acc i) (l++m82) (Ev.step (f:=fun k=>zmarkedOpnds.l1 k l 0) (fun k=>by simp only [zmarkedOpnds.l0];rw [if_neg (by omega)]) ?_) (fun i h hr=>Ev.step (fun k=>?_) hr)
 ·have key:∀ d i,16-i=d→i≤16→Ev (fun k=>zmarkedOpnds.l1 k (l++m82.take i) (i:Int)) (l++m82):=by
   intro d
   induction d with
   |zero =>
    intro i hd hi;obtain rfl:i=16:=by omega
    exact Ev.step (fun k=>by simp only [zmarkedOpnds.l1];rw [if_neg (by decide),show m82.take 16=m82 from rfl]) (Ev.now _)
   |succ d ih =>
    intro i hd hi;refine Ev.step (fun k=>?_) (ih (i+1) (by omega) (by omega));have ht:m82.take (i+1)=m82.take i++[⟨-7,(i:Int)⟩]:=by
     rw [List.take_add_one]
     congr 1
     simp [m82,show i<16 by omega]
    have hm:m82.length=16:=rfl;simp only [zmarkedOpnds.l1];rw [if_pos (by omega),if_pos (by rw [List.length_append,List.length_take];omega),ht,←List.append_assoc];rw [show wrap64 ((i:Int)+1)=((i+1:Nat):Int) from wrap_nat i 16 (by omega) (by omega)]
  have h:=key 16 0 rfl (by omega)
  simpa using h
 ·simp only [zmarkedOpnds.l0];rw [if_pos (by omega),if_pos (by omega),if_pos (by rw [List.length_take];omega),rd82 l i h,wrap_nat i _ h (by omega)]
theorem marked_calls (l:List S82) (A:Option Addr) (c:Nat) (w:World) (h:Kd.C k82 w A l.length l) (hc:l.length≤c) (hl:(l.length+16)*16≤140737488355328) :
  Calls Try.prog 50 #[.slice A l.length c] w fun e w'=>∃ v,e= .returned v∧Kd.R k82 82 w' w.heap.size (fun _=>True) v (l++m82)∧Below w.heap.size w w':=by
 obtain ⟨k,hk⟩:=(marked_ev l hl).rounds;exact zmarkedOpnds.calls k A c l _ w h hc hk
end Go.Proofs.Ytklknkfoafdgpaa.LiveHandP
