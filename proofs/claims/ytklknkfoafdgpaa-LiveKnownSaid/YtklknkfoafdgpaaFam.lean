import Derived.Test.YtklknkfoafdgpaaWMore
import Derived.Maps.AppendAt
import Derived.Deep.DeepAppendRoom
namespace Go.Proofs.Ytklknkfoafdgpaa.Grow
open RowKit YtklknkfoafdgpaaW.PrintWords
set_option linter.unusedVariables false
section
variable {P:Program}
theorem run_moved (w:World) (base:Nat) (t ty e:TypeId) (i:TypeInfo) (z:Value) (size bytes:Nat) (ht:P.underlying t=some (.slice e)) (hi:P.info? e=some i) (hz:i.zero=some z)
  (hsize:i.size=size) (hby:i.bytes=bytes) (hzs:z.cells.size=size) (hsz:0<size)
  (v:Value) (n:Nat) (xs:List Value) (hown:w.ownsRow base e size v n xs) (hfull:∀ A m cap,v= .slice A m cap→cap<n+1)
  (a:Addr) (news:List Value) (hl:news.length=1*size) (hnews:∀ j u,news[j]? =some u→w.cell? (a.add j)=some u)
  (h63:n+1≤maxLen) (hbytes:(n+1)*bytes≤140737488355328) (hbase:base≤w.heap.size) :
  ∃ v' w',(Builtin.append_ #[t,t] ty #[v,.slice (some a) 1 1]).run P w= .ok v' w'∧w'.ownsRow base e size v' (n+1) (xs++news)∧w.grownBy w' none∧v'.ownBlock=some w.heap.size:=by
 subst hsize;subst hby;have hsmall:n+1≤9223372036854775807:=by simp only [maxLen] at h63;omega
 have hlen:(xs++news).length=(n+1)*i.size:=by rw [List.length_append,hown.1,hl,Nat.add_mul]
 have made:∀ (old:Nat),old<n+1 →
   (w.drew.alloc (.cells (xs.toArray++news.toArray++Builtin.zeroCells z.cells (grownCap w (n+1) old e-(n+1))) e)).ownsRow base e i.size
    (.slice (some ⟨w.heap.size,0,none⟩) (n+1) (grownCap w (n+1) old e)) (n+1) (xs++news) ∧
   w.grownBy (w.drew.alloc (.cells (xs.toArray++news.toArray++Builtin.zeroCells z.cells (grownCap w (n+1) old e-(n+1))) e)) none:=by
  intro old ho;refine ⟨⟨hlen,.inr ⟨w.heap.size,_,_,rfl,hbase,Go.heap_alloc_new w.drew _,grownCap_ge w (n+1) old e,grownCap_le_maxLen w (n+1) old e h63,?_,?_⟩⟩,⟨rfl,rfl,rfl,by simp,fun k hk _=>Go.heap_alloc_old w.drew _ hk⟩⟩
  ·have hge:=grownCap_ge w (n+1) old e;simp only [Array.size_append,List.size_toArray,size_zeroCells,hzs,hown.1,hl,←Nat.add_mul]
   congr 1
   omega
  ·simp only [Array.toList_append,List.append_assoc];rw [←List.append_assoc,←hlen];exact List.take_left
 rcases hown.2 with ⟨rfl,rfl⟩ |⟨g,cap,cur,rfl,hbg,hg,hnc,hcm,hcs,htake⟩
 ·have hx:xs=[]:=List.eq_nil_of_length_eq_zero (by simpa using hown.1);subst hx;have hr:=run_append_nil (P:=P) w t ty e i z ht hi hz a 1 1 news hl hnews (by omega) (by omega) (by have hb:=hbytes;simp only [Nat.zero_add] at hb;omega);have hgr:=made 0 (by omega);simp only [Nat.zero_add,List.nil_append,Array.empty_append] at hgr ⊢;exact ⟨_,_,hr,hgr.1,hgr.2,rfl⟩
 ·have holds:∀ j u,xs[j]? =some u→w.cell? ((⟨g,0,none⟩:Addr).add j)=some u:=hown.cells (g:=g) rfl;have hf:=hfull _ _ _ rfl;have hr:=run_append_grow (P:=P) w t ty e i z ht hi hz ⟨g,0,none⟩ n cap xs hown.1 holds a 1 1 news hl hnews hf (by omega) (growslice_fits (by omega) hbytes);have hgr:=made cap (by omega);exact ⟨_,_,hr,hgr.1,hgr.2,rfl⟩
end
section
variable {P:Program} {ops:Array Oper} {rest:List Oper} {o:Oper} {a:Act} {Q:Exit→Act→World→Prop} {α:Type}
theorem weaken {w w1:World} {row:Option Nat} (h:w.grownBy w1 none):w.grownBy w1 row:=⟨h.os,h.tape,h.output,h.size,fun k hk _=>h.block k hk (by simp)⟩
theorem append_keep (d:Kd α) {w0 W:World} (base:Nat) (hgd:o.guard=none) (s x:Operand) (t e:TypeId) (z:Value) (bytes:Nat)
  (ho:o.op= .call { callee:= .builtin .append,args:= #[s,x],argTypes:= #[t,t] })
  (ht:P.underlying t=some (.slice e)) (hinfo:(P.info? e).map (fun i=>(i.zero,i.size,i.bytes))=some (some z,d.sz,bytes)) (hz:z.cells.size=d.sz) (hs0:0<d.sz) (hb0:0<bytes)
  (v:Value) (xs:List α) (p:α) (cs:List Value) (ok okp:Nat→Prop) (hs:a.eval s=v) (hx:a.eval x= .slice (some ⟨W.heap.size,0,none⟩) 1 1) (hp:d.M W base okp p cs) (hokp:∀ k,okp k→ok k∧some k≠v.ownBlock) (hfresh:∀ k,W.heap.size≤k→ok k)
  (HO:d.R e W base ok v xs) (HB:Below base w0 W) (hbase:base≤W.heap.size) (hl:(xs.length+1)*bytes≤140737488355328)
  (h:∀ v1 w1,d.R e w1 base ok v1 (xs++[p])→Below base w0 w1→W.grownBy w1 v.ownBlock→(v1.ownBlock=v.ownBlock∨(∃ b,v1.ownBlock=some b∧W.heap.size≤b)∧W.grownBy w1 none)→wpList P ops Q rest (a.put o.dst v1) w1) :
  wpList P ops Q (o::rest) a (W.alloc (.cells cs.toArray e)):=by
 obtain ⟨i0,hi,hzz⟩:=Option.map_eq_some_iff.1 hinfo;simp only [Prod.mk.injEq] at hzz;obtain ⟨hz0,hz1,hz2⟩:=hzz;have hlen:xs.length+1≤140737488355328:=Nat.le_trans (Nat.le_mul_of_pos_right _ hb0) hl;obtain ⟨h0,inner,hown,hr⟩:=HO;have hcl:=d.K_len (d.K_of_M hp);have hc1:=d.K_one (d.K_of_M hp);have hnews:∀ j u,cs[j]? =some u→(W.alloc (.cells cs.toArray e)).cell? ((⟨W.heap.size,0,none⟩:Addr).add j)=some u:=by
  simpa using World.news_of_block (cs:=cs.toArray) (t:=e) (fr:=(0,0)) (Go.heap_alloc_new W (.cells cs.toArray e))
 have hga:W.grownBy (W.alloc (.cells cs.toArray e)) none:=World.grownBy_alloc W _ _;have hown1:(W.alloc (.cells cs.toArray e)).ownsRow base e d.sz v xs.length inner:=hown.alloc _
 by_cases hroom:∃ g cap,v= .slice (some ⟨g,0,none⟩) xs.length cap∧xs.length+1≤cap
 ·obtain ⟨g,cap,rfl,hc⟩:=hroom;refine wpList_append_own_spare (W.alloc (.cells cs.toArray e)) hgd s x t ho base e i0 d.sz ht hi hz1 g xs.length cap inner hs hown1 ⟨W.heap.size,0,none⟩ 1 1 cs hx (by rw [hcl];simp) hnews hc1 hc ?_;intro w1 hown2 hg;have hg2:W.grownBy w1 (some g):=World.grownBy.trans (weaken hga) hg;have hat:(Value.slice (some ⟨g,0,none⟩) (xs.length+1) cap).ownBlock=(Value.slice (some ⟨g,0,none⟩) xs.length cap).ownBlock:=rfl
  exact h _ w1 (Kd.R_appended h0 hr hp hokp hfresh hown2 hg2 (.inl hat)) ((HB.alloc hbase _).grown hg (by simp;omega) (fun k hk=>by have:=own_base hown k (by simpa [Value.ownBlock] using hk);exact this)) hg2 (.inl hat)
 ·have hfull:∀ A m cap,v= .slice A m cap→cap<xs.length+1:=by
   intro A m cap hv;subst hv
   rcases hown.2 with ⟨hv,h0⟩ |⟨g,cap',cur,hv,_⟩
   ·injection hv with _ _ h3;omega
   ·injection hv with h1 h2 h3;subst h1;subst h2;subst h3;exact Nat.lt_of_not_le (fun hle=>hroom ⟨g,cap,rfl,hle⟩)
  obtain ⟨v1,w1,hrun,hown2,hg,hat⟩:=run_moved (P:=P) (W.alloc (.cells cs.toArray e)) base t o.type e i0 z d.sz bytes ht hi hz0 hz1 hz2 hz hs0 v xs.length inner hown1 hfull ⟨W.heap.size,0,none⟩ cs (by rw [hcl];simp) hnews (by simp only [maxLen];omega) hl (by simp;omega);have hg2:W.grownBy w1 none:=World.grownBy.trans hga hg;have hat2:∃ b,v1.ownBlock=some b∧W.heap.size≤b:=⟨_,hat,by simp⟩
  refine wpList_plain hgd fun K hK=>?_
  unfold Oper.wp execOp;simp only [ho,resolve,invoke,builtin,Sem.run_bind,Sem.run_pure,Result.andThen_ok,List.map_toArray,List.map_cons,List.map_nil,hs,hx,hrun];exact hK _ _ (h v1 w1 (Kd.R_appended h0 hr hp hokp hfresh hown2 (weaken hg2) (.inr hat2)) ((HB.alloc hbase _).grown hg (by simp;omega) (fun k hk=>by cases hk)) (weaken hg2) (.inr ⟨hat2,hg2⟩))
end
end Go.Proofs.Ytklknkfoafdgpaa.Grow
namespace Go.Proofs.Ytklknkfoafdgpaa.Fam
open RowKit YtklknkfoafdgpaaW.PrintWords Grow
set_option linter.unusedVariables false
abbrev HS:=Option Addr×Nat×Nat
def hv (h:HS):Value:= .slice h.1 h.2.1 h.2.2
def kh:Kd HS:=Kd.scalar hv (fun _=>rfl)
section
variable {α:Type} {d:Kd α} {e:Nat} {w0 w W w1:World} {vs:Nat→HS} {n:Nat} {len:Nat→Nat} {mk:Nat→Nat→α} {k lo m:Nat} {u v v1:Value} {gs:Nat→HS} {xs xs0:Nat→List α} {r:Option Nat} {et:Nat} {ok:Nat→Prop}
def mks (mk:Nat→Nat→α) (k m:Nat):List α:=(List.range m).map (mk k)
theorem mks_length:(mks mk k m).length=m:=by simp [mks]
theorem mks_succ:mks mk k (m+1)=mks mk k m++[mk k m]:=by simp [mks,List.range_succ]
theorem mks_take {i:Nat} (h:i≤m):(mks mk k m).take i=mks mk k i:=by
 simp only [mks,←List.map_take];rw [List.take_range,Nat.min_eq_left h]
theorem mks_get {i:Nat} (h:i<m):(mks mk k m)[i]? =some (mk k i):=by simp [mks,h]
def Pre (mk:Nat→Nat→α) (k i:Nat) (l:List α):Prop:=∀ j,j<i→l[j]? =some (mk k j)
theorem pre_zero (l:List α):Pre mk k 0 l:=fun j hj=>absurd hj (Nat.not_lt_zero _)
theorem pre_set {i:Nat} {l:List α} (h:Pre mk k i l) (hi:i<l.length):Pre mk k (i+1) (l.set i (mk k i)):=by
 intro j hj;rw [List.getElem?_set]
 by_cases he:i=j
 ·subst he
  simp [hi]
 ·rw [if_neg he];exact h j (by omega)
theorem pre_full {i:Nat} {l:List α} (h:Pre mk k i l) (hi:l.length=i):l=mks mk k i:=by
 apply List.ext_getElem?;intro j
 by_cases hj:j<i
 ·rw [h j hj,mks_get hj]
 ·rw [List.getElem?_eq_none (by omega),List.getElem?_eq_none (by rw [mks_length];omega)]
def Own (vs:Nat→HS) (n:Nat) (b:Nat):Prop:=∃ j,j<n∧(hv (vs j)).ownBlock=some b
def Tight (v:Value) (b:Nat):Prop:=some b=v.ownBlock
structure Given (d:Kd α) (e:Nat) (w0 w:World) (vs:Nat→HS) (n:Nat) (xs:Nat→List α):Prop where
 below:Below w0.heap.size w0 w
 rows:∀ j,j<n→d.R e w w0.heap.size (Tight (hv (vs j))) (hv (vs j)) (xs j)
 apart:∀ i,i<n→∀ j,j<n→i≠j→∀ b,(hv (vs i)).ownBlock=some b→(hv (vs j)).ownBlock≠some b
theorem Given.lt (h:Given d e w0 w vs n xs) {j b:Nat} (hj:j<n) (hb:(hv (vs j)).ownBlock=some b):b<w.heap.size:=Kd.R_lt (h.rows j hj) b hb
structure P1 (d:Kd α) (e:Nat) (w0 w:World) (vs:Nat→HS) (n:Nat) (len:Nat→Nat) (mk:Nat→Nat→α) (W:World) (k:Nat) (xs:Nat→List α):Prop where
 below:Below w0.heap.size w0 W
 kept:Kept w W (Own vs n)
 rows:∀ j,j<n→d.R e W w0.heap.size (Tight (hv (vs j))) (hv (vs j)) (xs j)
 size:∀ j,j<n→(xs j).length=len j
 done:∀ j,j<k→xs j=mks mk j (len j)
theorem P1.start (h:Given d e w0 w vs n xs) (hl:∀ j,j<n→(xs j).length=len j):P1 d e w0 w vs n len mk w 0 xs:=⟨h.below,Kept.refl _ _,h.rows,hl,fun j hj=>absurd hj (Nat.not_lt_zero _)⟩
theorem P1.store (h:P1 d e w0 w vs n len mk W k xs) (hG:Given d e w0 w vs n xs0) (hk:k<n) {x':α} {i:Nat} (hR:d.R e w1 w0.heap.size (Tight (hv (vs k))) (hv (vs k)) ((xs k).set i x')) (hb:Below w0.heap.size w0 w1) (hg:W.grownBy w1 (hv (vs k)).ownBlock) :
  P1 d e w0 w vs n len mk w1 k (fun j=>if j=k then (xs k).set i x' else xs j):=by
 refine ⟨hb,Kept.of_grown hg h.kept (fun b hb=> .inl ⟨k,hk,hb⟩),?_,?_,?_⟩
 ·intro j hj
  by_cases he:j=k
  ·subst he;simp only [if_pos];exact hR
  ·simp only [if_neg he];exact Kd.R_grown (h.rows j hj) hg (fun b hb he2=>hG.apart j hj k hk he b hb.symm he2.symm)
 ·intro j hj
  by_cases he:j=k
  ·subst he;simp only [if_pos,List.length_set];exact h.size j hj
  ·simp only [if_neg he];exact h.size j hj
 ·intro j hj;rw [if_neg (by omega)];exact h.done j hj
theorem P1.next (h:P1 d e w0 w vs n len mk W k xs) (hk:k<n) (hp:Pre mk k (len k) (xs k)):P1 d e w0 w vs n len mk W (k+1) xs:=by
 refine ⟨h.below,h.kept,h.rows,h.size,fun j hj=>?_⟩
 by_cases he:j=k
 ·subst he;exact pre_full hp (h.size j hk)
 ·exact h.done j (by omega)
structure P2 (d:Kd α) (e:Nat) (w0 w:World) (vs:Nat→HS) (n:Nat) (len:Nat→Nat) (mk:Nat→Nat→α) (W:World) (k lo:Nat) (gs:Nat→HS):Prop where
 below:Below w0.heap.size w0 W
 kept:Kept w W (Own vs n)
 rows:∀ j,lo≤j→j<n→d.R e W w0.heap.size (Tight (hv (vs j))) (hv (vs j)) (mks mk j (len j))
 olds:∀ j,j<k→Kd.F d W (Tight (hv (vs j))) (vs j).1 (len j) (mks mk j (len j))
 news:∀ j,j<k→(gs j).2.1=len j+64∧Kd.F d W (Tight (hv (gs j))) (gs j).1 (len j+64) (mks mk j (len j+64))
 at_:∀ j,j<k→(hv (gs j)).ownBlock=(hv (vs j)).ownBlock∨∃ b,(hv (gs j)).ownBlock=some b∧w.heap.size≤b
 lt:∀ j,j<k→∀ b,(hv (gs j)).ownBlock=some b→b<W.heap.size
theorem P2.start (h:P1 d e w0 w vs n len mk W n xs):P2 d e w0 w vs n len mk W 0 0 gs:=
 ⟨h.below,h.kept,fun j _ hj=>by have:=h.rows j hj;rwa [h.done j hj] at this,fun j hj=>absurd hj (Nat.not_lt_zero _),fun j hj=>absurd hj (Nat.not_lt_zero _),fun j hj=>absurd hj (Nat.not_lt_zero _),fun j hj=>absurd hj (Nat.not_lt_zero _)⟩
theorem P2.grown (h:P2 d e w0 w vs n len mk W k lo gs) (hb:Below w0.heap.size w0 w1) (hg:W.grownBy w1 r) (hr:∀ b,r=some b→Own vs n b∨w.heap.size≤b) (hv1:∀ j,lo≤j∨j<k→j<n→∀ b,(hv (vs j)).ownBlock=some b→r≠some b)
  (hv2:∀ j,j<k→∀ b,(hv (gs j)).ownBlock=some b→r≠some b) (hk:k≤n):P2 d e w0 w vs n len mk w1 k lo gs:=
 ⟨hb,Kept.of_grown hg h.kept hr,fun j h1 h2=>Kd.R_grown (h.rows j h1 h2) hg (fun b hb he=>hv1 j (.inl h1) h2 b hb.symm he.symm),
  fun j hj=>Kd.F_grown (h.olds j hj) hg (fun b hb he=>hv1 j (.inr hj) (by omega) b hb.symm he.symm),
  fun j hj=>⟨(h.news j hj).1,Kd.F_grown (h.news j hj).2 hg (fun b hb he=>hv2 j hj b hb.symm he.symm)⟩,h.at_,fun j hj b hb=>Nat.lt_of_lt_of_le (h.lt j hj b hb) hg.size⟩
def Outer (et:Nat) (w0 w W:World) (k:Nat) (gs:Nat→HS) (u:Value):Prop:=kh.R et W w0.heap.size (fun b=>w.heap.size≤b∧∀ j,j<k→(hv (gs j)).ownBlock≠some b) u ((List.range k).map gs)
theorem Outer.start:Outer et w0 w W 0 gs (.slice none 0 0):=Kd.R_nil _ _ _ _ _
structure P3 (d:Kd α) (e et:Nat) (w0 w:World) (vs:Nat→HS) (n:Nat) (len:Nat→Nat) (mk:Nat→Nat→α) (W:World) (k m:Nat) (gs:Nat→HS) (u v:Value):Prop where
 fam:P2 d e w0 w vs n len mk W k (k+1) gs
 outer:Outer et w0 w W k gs u
 row:d.R e W w0.heap.size (Tight v) v (mks mk k (len k+m))
 cur:v.ownBlock=(hv (vs k)).ownBlock∨(∃ b,v.ownBlock=some b∧w.heap.size≤b∧(∀ j,j<k→(hv (gs j)).ownBlock≠some b)∧u.ownBlock≠some b)∧Kd.F d W (Tight (hv (vs k))) (vs k).1 (len k) (mks mk k (len k))
theorem P3.start (h:P2 d e w0 w vs n len mk W k k gs) (ho:Outer et w0 w W k gs u) (hk:k<n):P3 d e et w0 w vs n len mk W k 0 gs u (hv (vs k)):=
 ⟨⟨h.below,h.kept,fun j h1 h2=>h.rows j (by omega) h2,h.olds,h.news,h.at_,h.lt⟩,ho,h.rows k (Nat.le_refl _) hk,.inl rfl⟩
theorem P3.below (h:P3 d e et w0 w vs n len mk W k m gs u v) (hb:Below W.heap.size W w1) (hs:w0.heap.size≤W.heap.size) (hk:k≤n):P3 d e et w0 w vs n len mk w1 k m gs u v:=by
 have hg:W.grownBy w1 none:=⟨hb.os,hb.tape,hb.output,hb.size,fun k hk _=>hb.block k hk⟩
 refine ⟨h.fam.grown (below_then h.fam.below hs hb) hg (fun b hb=>by cases hb) (fun _ _ _ _ _ he=>by cases he) (fun _ _ _ _ he=>by cases he) hk,Kd.R_below h.outer hb,Kd.R_below h.row hb,?_⟩
 rcases h.cur with h1 |⟨h1,h2⟩
 ·exact .inl h1
 ·exact .inr ⟨h1,Kd.F_below h2 hb⟩
theorem old_part (hE:d.E=[]) {x:HS} {l:List α} (hv0:v.ownBlock=(hv x).ownBlock) (hx:d.R e w w0.heap.size (Tight (hv x)) (hv x) l) (hlx:l.length=len k) (h:d.R e W w0.heap.size (Tight v) v (mks mk k (len k+m))) (hsz:0<d.sz):Kd.F d W (Tight (hv x)) x.1 (len k) (mks mk k (len k)):=by
 obtain ⟨A,n,c⟩:=x;intro W' hW;have hxr:=Kd.R_reads' hx
 rcases A with _ |ad
 ·rcases Nat.eq_zero_or_pos (len k) with h0 |h0
  ·rw [h0];exact Kd.C_nil d W'
  ·obtain ⟨g,cap,he,_⟩:=Kd.R_form hx (by omega);cases he
 ·obtain ⟨g,hg⟩:=Kd.R_head hx;subst hg;obtain ⟨Av,cv,hvv⟩:=Kd.R_slice h;subst hvv
  rcases Av with _ |av
  ·simp [hv,Value.ownBlock] at hv0
  ·obtain ⟨g2,hg2⟩:=Kd.R_head h;subst hg2;have hgg:g2=g:=by simpa [hv,Value.ownBlock] using hv0
   subst hgg;have hR:=Kd.R_step h (w1:=W') (fun b hb hlt=>hW b (by simp only [Tight] at hb ⊢; rw [hb];exact hv0) hlt);have hC:=(Kd.R_reads' hR).2.2;have h2:=Kd.C_take (m:=len k) hC (by rw [mks_length];omega);rw [mks_take (by omega),mks_length] at h2;exact h2
theorem P3.grow (hE:d.E=[]) (hsz:0<d.sz) (hG:Given d e w0 w vs n xs) (hl:∀ j,j<n→(xs j).length=len j) (hk:k<n) (h:P3 d e et w0 w vs n len mk W k m gs u v) (hR:d.R e w1 w0.heap.size ok v1 (mks mk k (len k+m)++[mk k (len k+m)])) (hb:Below w0.heap.size w0 w1)
  (hg:W.grownBy w1 v.ownBlock) (hat:v1.ownBlock=v.ownBlock∨(∃ b,v1.ownBlock=some b∧W.heap.size≤b)∧W.grownBy w1 none):P3 d e et w0 w vs n len mk w1 k (m+1) gs u v1:=by
 have hrow:d.R e w1 w0.heap.size (Tight v1) v1 (mks mk k (len k+(m+1))):=by
  rw [←mks_succ] at hR;exact Kd.R_reok hE hR (fun b hb=>hb.symm)
 have hW:w.heap.size≤W.heap.size:=h.fam.kept.1;have hult:∀ b,u.ownBlock=some b→b<W.heap.size:=Kd.R_lt h.outer;have huge:∀ b,u.ownBlock=some b→w.heap.size≤b:=fun b hb=>(h.outer.1 b hb).1
 have hfam:P2 d e w0 w vs n len mk w1 k (k+1) gs∧Outer et w0 w w1 k gs u:=by
  have hvb:∀ b,v.ownBlock=some b→(Own vs n b∨w.heap.size≤b)∧(∀ j,k+1≤j∨j<k→j<n→(hv (vs j)).ownBlock≠some b)∧(∀ j,j<k→(hv (gs j)).ownBlock≠some b)∧u.ownBlock≠some b:=by
   intro b hvb
   rcases h.cur with h1 |⟨⟨b',h1,h2,h3,h4⟩,_⟩
   ·have hkb:(hv (vs k)).ownBlock=some b:=h1▸hvb;have hlt:=hG.lt hk hkb;refine ⟨.inl ⟨k,hk,hkb⟩,fun j hj hjn he=>hG.apart k hk j hjn (by omega) b hkb he,fun j hj he=>?_,fun he=>by have:=huge b he;omega⟩
    rcases h.fam.at_ j hj with ha |⟨b2,ha,hle⟩
    ·exact hG.apart k hk j (by omega) (by omega) b hkb (ha▸he)
    ·rw [ha] at he;injection he with he;omega
   ·have:b'=b:=by rw [h1] at hvb;injection hvb
    subst this;exact ⟨.inr h2,fun j _ hjn he=>by have:=hG.lt hjn he;omega,h3,h4⟩
  refine ⟨h.fam.grown hb hg (fun b hb=>(hvb b hb).1) (fun j hj hjn b hb he=>(hvb b he).2.1 j hj hjn hb) (fun j hj b hb he=>(hvb b he).2.2.1 j hj hb) (by omega),?_⟩;refine Kd.R_reok rfl (Kd.R_grown (Kd.R_reok (ok:=fun b=>u.ownBlock=some b) rfl h.outer (fun b hb=>hb)) hg (fun b hb he=>(hvb b he.symm).2.2.2 hb)) (fun b hb=>h.outer.1 b hb)
 refine ⟨hfam.1,hfam.2,hrow,?_⟩
 rcases hat with hat |⟨⟨b,hb1,hb2⟩,hg0⟩
 ·rcases h.cur with h1 |⟨⟨b',h1,h2,h3,h4⟩,hF⟩
  ·exact .inl (hat.trans h1)
  ·refine .inr ⟨⟨b',hat.trans h1,h2,h3,h4⟩,Kd.F_grown hF hg (fun c hc he=>?_)⟩;rw [h1] at he;injection he with he;have:=hG.lt hk hc.symm;omega
 ·refine .inr ⟨⟨b,hb1,by omega,fun j hj he=>by have:=h.fam.lt j hj b he;omega,fun he=>by have:=hult b he;omega⟩,?_⟩
  rcases h.cur with h1 |⟨_,hF⟩
  ·exact Kd.F_grown (old_part hE h1 (hG.rows k hk) (hl k hk) h.row hsz) hg0 (fun _ _=>by simp)
  ·exact Kd.F_grown hF hg0 (fun _ _=>by simp)
theorem P3.done (hE:d.E=[]) (hsz:0<d.sz) (hG:Given d e w0 w vs n xs) (hl:∀ j,j<n→(xs j).length=len j) (hk:k<n) {x:HS} {u1:Value} (h:P3 d e et w0 w vs n len mk W k 64 gs u (hv x)) (het:e≠et) (hR:kh.R et w1 w0.heap.size ok u1 ((List.range k).map gs++[x])) (hb:Below w0.heap.size w0 w1)
  (hg:W.grownBy w1 u.ownBlock) (hat:u1.ownBlock=u.ownBlock∨∃ b,u1.ownBlock=some b∧W.heap.size≤b) :
  P2 d e w0 w vs n len mk w1 (k+1) (k+1) (fun j=>if j=k then x else gs j)∧Outer et w0 w w1 (k+1) (fun j=>if j=k then x else gs j) u1:=by
 have hW:w.heap.size≤W.heap.size:=h.fam.kept.1;have huge:∀ b,u.ownBlock=some b→w.heap.size≤b:=fun b hb=>(h.outer.1 b hb).1
 have hug:∀ b,u.ownBlock=some b→∀ j,j<k→(hv (gs j)).ownBlock≠some b:=fun b hb=>(h.outer.1 b hb).2
 have hux:∀ b,u.ownBlock=some b→(hv x).ownBlock≠some b:=by
  intro b hb hx;obtain ⟨c1,hc1⟩:=Kd.R_typed h.outer b hb;obtain ⟨c2,hc2⟩:=Kd.R_typed h.row b hx;rw [hc1] at hc2;injection hc2 with hc2;injection hc2 with _ h2;exact het h2.symm
 have huv:∀ b,u.ownBlock=some b→∀ j,j<n→(hv (vs j)).ownBlock≠some b:=fun b hb j hj he=>by
  have h1:=huge b hb;have h2:=hG.lt hj he;omega
 have hF:=h.fam.grown hb hg (fun b hb=> .inr (huge b hb)) (fun j _ hjn b hb he=>huv b he j hjn hb) (fun j hj b hb he=>hug b he j hj hb) (by omega);have hold:Kd.F d W (Tight (hv (vs k))) (vs k).1 (len k) (mks mk k (len k)):=by
  rcases h.cur with h1 |⟨_,h2⟩
  ·exact old_part hE h1 (hG.rows k hk) (hl k hk) h.row hsz
  ·exact h2
 have hxn:x.2.1=len k+64:=by
  have:=(Kd.R_reads' (A:=x.1) (n:=x.2.1) (c:=x.2.2) h.row).1;rw [mks_length] at this;exact this
 have hnew:Kd.F d W (Tight (hv x)) x.1 (len k+64) (mks mk k (len k+64)):=by
  have:=Kd.R_F (A:=x.1) (n:=x.2.1) (cc:=x.2.2) h.row
  rwa [hxn] at this
 constructor
 ·refine ⟨hb,hF.kept,hF.rows,fun j hj=>?_,fun j hj=>?_,fun j hj=>?_,fun j hj b hbj=>?_⟩
  ·by_cases he:j=k
   ·subst he;exact Kd.F_grown hold hg (fun b hb he=>huv b he.symm j hk hb.symm)
   ·exact hF.olds j (by omega)
  ·by_cases he:j=k
   ·subst he;simp only [if_pos];exact ⟨hxn,Kd.F_grown hnew hg (fun b hb he=>hux b he.symm hb.symm)⟩
   ·simp only [if_neg he];exact hF.news j (by omega)
  ·by_cases he:j=k
   ·subst he;simp only [if_pos]
    rcases h.cur with h1 |⟨⟨b,h1,h2,_⟩,_⟩
    ·exact .inl h1
    ·exact .inr ⟨b,h1,h2⟩
   ·simp only [if_neg he];exact hF.at_ j (by omega)
  ·by_cases he:j=k
   ·subst he;simp only [if_pos] at hbj;exact Nat.lt_of_lt_of_le (Kd.R_lt h.row b hbj) hg.size
   ·simp only [if_neg he] at hbj;exact hF.lt j (by omega) b hbj
 ·have hm:(List.range (k+1)).map (fun j=>if j=k then x else gs j)=(List.range k).map gs++[x]:=by
   rw [List.range_succ,List.map_append,List.map_cons,List.map_nil,if_pos rfl]
   congr 1
   apply List.map_congr_left;intro j hj;rw [if_neg (by have:=List.mem_range.1 hj;omega)]
  show kh.R _ _ _ _ _ _
  rw [hm];refine Kd.R_reok rfl hR (fun b hb1=>?_)
  rcases hat with hat |⟨b2,hb2,hle⟩
  ·rw [hat] at hb1;refine ⟨huge b hb1,fun j hj he=>?_⟩;simp only [] at he
   by_cases hjk:j=k
   ·rw [if_pos hjk] at he;exact hux b hb1 he
   ·rw [if_neg hjk] at he;exact hug b hb1 j (by omega) he
  ·rw [hb2] at hb1;injection hb1 with hb1;subst hb1;refine ⟨by omega,fun j hj he=>?_⟩;simp only [] at he
   by_cases hjk:j=k
   ·rw [if_pos hjk] at he;have:=Kd.R_lt h.row b2 he;omega
   ·rw [if_neg hjk] at he;have:=h.fam.lt j (by omega) b2 he;omega
end
end Go.Proofs.Ytklknkfoafdgpaa.Fam
