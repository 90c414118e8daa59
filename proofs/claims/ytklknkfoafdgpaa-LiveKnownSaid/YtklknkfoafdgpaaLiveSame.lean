import Derived.Test.YtklknkfoafdgpaaLiveKn
import Derived.Test.YtklknkfoafdgpaaPLiveKnownx1
import Derived.Test.YtklknkfoafdgpaaPLiveKnownx2
import Derived.Test.YtklknkfoafdgpaaPLiveKnownx4
namespace Go.Proofs.Ytklknkfoafdgpaa.LiveSame
open RowKit YtklknkfoafdgpaaW.PrintWords YtklknkfoafdgpaaW.PrintLast YtklknkfoafdgpaaW.PrintMore
open PLiveKnown LiveT LiveSet LiveAhead LiveEnd LiveSettled LiveCopied LiveRunP
set_option linter.unusedVariables false
set_option linter.unusedSimpArgs false
theorem wrap_nat (i n:Nat) (h:i<n) (hn:n≤9223372036854775807):wrap64 ((i:Int)+1)=((i+1:Nat):Int):=by unfold wrap64;omega
theorem loop_eq {α:Type} (l m:List α) (hlen:l.length=m.length) (g:Nat→Int→Option Bool) (hstop:∀ k,g (k+1) (l.length:Int)=some true)
  (hstep:∀ i (h1:i<l.length) (h2:i<m.length),(l[i]=m[i]→∀ r,Ev (fun k=>g k ((i+1:Nat):Int)) r→Ev (fun k=>g k (i:Int)) r)∧(l[i]≠m[i]→Ev (fun k=>g k (i:Int)) false)) :
  ∃ t,Ev (fun k=>g k ((0:Nat):Int)) t∧(t=true↔l=m):=by
 have key:∀ d i,l.length-i=d→i≤l.length→∃ t,Ev (fun k=>g k (i:Int)) t∧(t=true↔l.drop i=m.drop i):=by
  intro d
  induction d with
  |zero =>
   intro i hd hi;obtain rfl:i=l.length:=by omega
   exact ⟨true,Ev.step (fun k=>hstop k) (Ev.now true),by rw [List.drop_length,hlen,List.drop_length];simp⟩
  |succ d ih =>
   intro i hd hi;have h1:i<l.length:=by omega
   have h2:i<m.length:=by omega
   rw [List.drop_eq_getElem_cons h1,List.drop_eq_getElem_cons h2]
   by_cases he:l[i]=m[i]
   ·obtain ⟨t,ht,hiff⟩:=ih (i+1) (by omega) (by omega);exact ⟨t,(hstep i h1 h2).1 he t ht,by rw [hiff];exact ⟨fun h=>by rw [he,h],fun h=>(List.cons.inj h).2⟩⟩
   ·exact ⟨false,(hstep i h1 h2).2 he,⟨fun h=>absurd h (by decide),fun h=>absurd (List.cons.inj h).1 he⟩⟩
 obtain ⟨t,ht,hiff⟩:=key _ 0 rfl (Nat.zero_le _);exact ⟨t,ht,by simpa using hiff⟩
theorem rd82 (l:List S82) (i:Nat) (h:i<l.length):rd_T82 l (i:Int)=l[i]:=by simp [rd_T82,List.getD_eq_getElem?_getD,h]
theorem rd78 (l:List S78) (i:Nat) (h:i<l.length):rd_T78 l (i:Int)=l[i]:=by simp [rd_T78,List.getD_eq_getElem?_getD,h]
theorem rd47 (l:List S47) (i:Nat) (h:i<l.length):rd_T47 l (i:Int)=l[i]:=by simp [rd_T47,List.getD_eq_getElem?_getD,h]
theorem rd43 (l:List S43) (i:Nat) (h:i<l.length):rd_T43 l (i:Int)=l[i]:=by simp [rd_T43,List.getD_eq_getElem?_getD,h]
theorem rdI (l:List Int) (i:Nat) (h:i<l.length):rd l (i:Int)=l[i]:=by simp [rd,List.getD_eq_getElem?_getD,h]
theorem s82_eq (a b:S82):a=b↔a.f0=b.f0∧a.f1=b.f1:=by
 cases a;cases b;simp
theorem s78_eq (a b:S78):a=b↔a.f0=b.f0∧a.f1=b.f1∧a.f2=b.f2:=by
 cases a;cases b;simp
theorem s47_eq (a b:S47):a=b↔a.f0=b.f0∧a.f1=b.f1∧a.f2=b.f2∧a.f3=b.f3∧a.f4=b.f4∧a.f5=b.f5∧a.f6=b.f6∧a.f7=b.f7:=by
 cases a;cases b;simp
theorem other_len {α:Type} {l m:List α} (h:¬ (l.length:Int)=(m.length:Int)):l≠m:=fun he=>h (by rw [he])
theorem ints_ev (l m:List Int) (hl:l.length≤9223372036854775807):∃ t,Ev (fun k=>zSameInts.f k l m) t∧(t=true↔l=m):=by
 by_cases hlen:(l.length:Int)=(m.length:Int)
 ·obtain ⟨t,ht,hiff⟩:=loop_eq l m (by omega) (fun k i=>zSameInts.l0 k l m i) (fun k=>by simp only [zSameInts.l0];rw [if_neg (by omega)]) (fun i h1 h2=>by
   have hs:∀ k,zSameInts.l0 (k+1) l m (i:Int)=if l[i]=m[i] then zSameInts.l0 k l m ((i+1:Nat):Int) else some false:=fun k=>by
    simp only [zSameInts.l0];rw [if_pos (by omega),if_pos (by omega),if_pos (by omega),rdI l i h1,rdI m i h2,wrap_nat i _ h1 hl]
   exact ⟨fun he r hr=>Ev.step (fun k=>by rw [hs,if_pos he]) hr,fun he=>Ev.step (fun k=>by rw [hs,if_neg he]) (Ev.now false)⟩)
  exact ⟨t,Ev.congr (fun k=>by unfold zSameInts.f;rw [if_pos hlen];rfl) ht,hiff⟩
 ·exact ⟨false,Ev.congr (fun k=>by unfold zSameInts.f;rw [if_neg hlen]) (Ev.now false),by simp [other_len hlen]⟩
theorem opnds_ev (l m:List S82) (hl:l.length≤9223372036854775807):∃ t,Ev (fun k=>zSameOpnds.f k l m) t∧(t=true↔l=m):=by
 by_cases hlen:(l.length:Int)=(m.length:Int)
 ·obtain ⟨t,ht,hiff⟩:=loop_eq l m (by omega) (fun k i=>zSameOpnds.l0 k l m i) (fun k=>by simp only [zSameOpnds.l0];rw [if_neg (by omega)]) (fun i h1 h2=>by
   have hs:∀ k,zSameOpnds.l0 (k+1) l m (i:Int)=if (!(l[i].f0==m[i].f0)||(!(l[i].f1==m[i].f1)))=true then some false else zSameOpnds.l0 k l m ((i+1:Nat):Int):=fun k=>by
    simp only [zSameOpnds.l0];rw [if_pos (by omega),if_pos (by omega),if_pos (by omega),rd82 l i h1,rd82 m i h2,wrap_nat i _ h1 hl]
   constructor
   ·intro he r hr;have e0:l[i].f0=m[i].f0:=by rw [he]
    have e1:l[i].f1=m[i].f1:=by rw [he]
    exact Ev.step (fun k=>by rw [hs,if_neg (by simp [e0,e1])]) hr
   ·intro he;refine Ev.step (fun k=>by rw [hs,if_pos (by
     rw [ne_eq,s82_eq] at he
     by_cases h0:l[i].f0=m[i].f0
     ·have h3:¬ l[i].f1=m[i].f1:=fun h3=>he ⟨h0,h3⟩
      simp [h0,h3]
     ·simp [h0])]) (Ev.now false))
  exact ⟨t,Ev.congr (fun k=>by unfold zSameOpnds.f;rw [if_pos hlen];rfl) ht,hiff⟩
 ·exact ⟨false,Ev.congr (fun k=>by unfold zSameOpnds.f;rw [if_neg hlen]) (Ev.now false),by simp [other_len hlen]⟩
theorem shapes_ev (l m:List S78) (hl:l.length≤9223372036854775807) (hs:∀ k,k<l.length→(rd_T78 l k).f2.length≤9223372036854775807):∃ t,Ev (fun k=>zSameShapes.f k l m) t∧(t=true↔l=m):=by
 by_cases hlen:(l.length:Int)=(m.length:Int)
 ·obtain ⟨t,ht,hiff⟩:=loop_eq l m (by omega) (fun k i=>zSameShapes.l0 k l m i) (fun k=>by simp only [zSameShapes.l0];rw [if_neg (by omega)]) (fun i h1 h2=>by
   have h3:=hs i h1;rw [rd78 l i h1] at h3;obtain ⟨t,ht,hiff⟩:=opnds_ev l[i].f2 m[i].f2 h3;have hst:∀ k,zSameShapes.l0 (k+1) l m (i:Int)=if l[i].f0=m[i].f0 then (if l[i].f1=m[i].f1 then ((zSameOpnds.f k l[i].f2 m[i].f2).bind fun t=>if t=true then zSameShapes.l0 k l m ((i+1:Nat):Int) else some false) else some false) else some false:=fun k=>by
    simp only [zSameShapes.l0];rw [if_pos (by omega),if_pos (by omega),if_pos (by omega),rd78 l i h1,rd78 m i h2,wrap_nat i _ h1 hl]
   constructor
   ·intro he r hr;have ht1:t=true:=hiff.mpr (by rw [he]);subst ht1;refine Ev.step (fun k=>by rw [hst,if_pos (by rw [he]),if_pos (by rw [he])]) (Ev.bind ht ?_);exact Ev.congr (fun k=>by rw [if_pos rfl]) hr
   ·intro he;rw [ne_eq,s78_eq] at he
    by_cases h0:l[i].f0=m[i].f0
    ·by_cases h1':l[i].f1=m[i].f1
     ·have ht0:t=false:=by
       cases t with
       |false=>rfl
       |true=>exact absurd ⟨h0,h1',hiff.mp rfl⟩ he
      subst ht0;refine Ev.step (fun k=>by rw [hst,if_pos h0,if_pos h1']) (Ev.bind ht ?_);exact Ev.congr (fun k=>by rw [if_neg (by decide)]) (Ev.now false)
     ·exact Ev.step (fun k=>by rw [hst,if_pos h0,if_neg h1']) (Ev.now false)
    ·exact Ev.step (fun k=>by rw [hst,if_neg h0]) (Ev.now false))
  exact ⟨t,Ev.congr (fun k=>by unfold zSameShapes.f;rw [if_pos hlen];rfl) ht,hiff⟩
 ·exact ⟨false,Ev.congr (fun k=>by unfold zSameShapes.f;rw [if_neg hlen]) (Ev.now false),by simp [other_len hlen]⟩
theorem ins_ev (x y:S47) (hx:Fit47 x):∃ t,Ev (fun k=>zSameIns.f k x.f0 x.f1 x.f2 x.f3 x.f4 x.f5 x.f6 x.f7 y.f0 y.f1 y.f2 y.f3 y.f4 y.f5 y.f6 y.f7) t∧(t=true↔x=y):=by
 have no:∀ k a0 a1 a2 a3 a4 a5 a6 a7 b0 b1 b2 b3 b4 b5 b6 b7,zSameIns.j0 (k+1) true a0 a1 a2 a3 a4 a5 a6 a7 b0 b1 b2 b3 b4 b5 b6 b7=some false:=fun k a0 a1 a2 a3 a4 a5 a6 a7 b0 b1 b2 b3 b4 b5 b6 b7=>by simp [zSameIns.j0]
 have neq:∀ {p:Prop},¬ p→(p∧True→False):=fun h hp=>h hp.1
 by_cases h0:x.f0=y.f0
 ·by_cases h1:x.f1=y.f1
  ·by_cases h2:x.f2=y.f2
   ·by_cases h4:x.f4=y.f4
    ·by_cases h5:x.f5=y.f5
     ·by_cases h6:x.f6=y.f6
      ·obtain ⟨t,ht,hiff⟩:=opnds_ev x.f3 y.f3 (by have:=hx.args;omega);obtain ⟨u,hu,huiff⟩:=shapes_ev x.f7 y.f7 (by have:=hx.exits;omega) (fun k hk=>by have:=hx.slots k hk;omega);have hj:∀ k,zSameIns.f (k+1) x.f0 x.f1 x.f2 x.f3 x.f4 x.f5 x.f6 x.f7 y.f0 y.f1 y.f2 y.f3 y.f4 y.f5 y.f6 y.f7=((zSameOpnds.f k x.f3 y.f3).bind fun t=>if t=true then ((zSameShapes.f k x.f7 y.f7).bind fun u=>some u) else some false):=fun k=>by
        unfold zSameIns.f;rw [if_pos h0,if_pos h1,if_pos h2,if_pos h4,if_pos h5]
        simp [zSameIns.j0,h6]
       cases t with
       |false=>exact ⟨false,Ev.step hj (Ev.bind ht (Ev.congr (fun k=>by rw [if_neg (by decide)]) (Ev.now false))),by rw [s47_eq];simp only [Bool.false_eq_true,false_iff];exact fun h=>by have:=hiff.mpr h.2.2.2.1;exact absurd this (by decide)⟩
       |true=>exact ⟨u,Ev.step hj (Ev.bind ht (Ev.congr (fun k=>by rw [if_pos rfl]) (Ev.bind hu (Ev.now u)))),by rw [s47_eq,huiff];exact ⟨fun h=>⟨h0,h1,h2,hiff.mp rfl,h4,h5,h6,h⟩,fun h=>h.2.2.2.2.2.2.2⟩⟩
      ·exact ⟨false,Ev.step (fun k=>by unfold zSameIns.f;rw [if_pos h0,if_pos h1,if_pos h2,if_pos h4,if_pos h5,show (x.f6 != y.f6)=true from bne_iff_ne.mpr h6,no]) (Ev.now false),by rw [s47_eq];simp [h6]⟩
     ·exact ⟨false,Ev.step (fun k=>by unfold zSameIns.f;rw [if_pos h0,if_pos h1,if_pos h2,if_pos h4,if_neg h5,no]) (Ev.now false),by rw [s47_eq];simp [h5]⟩
    ·exact ⟨false,Ev.step (fun k=>by unfold zSameIns.f;rw [if_pos h0,if_pos h1,if_pos h2,if_neg h4,no]) (Ev.now false),by rw [s47_eq];simp [h4]⟩
   ·exact ⟨false,Ev.step (fun k=>by unfold zSameIns.f;rw [if_pos h0,if_pos h1,if_neg h2,no]) (Ev.now false),by rw [s47_eq];simp [h2]⟩
  ·exact ⟨false,Ev.step (fun k=>by unfold zSameIns.f;rw [if_pos h0,if_neg h1,no]) (Ev.now false),by rw [s47_eq];simp [h1]⟩
 ·exact ⟨false,Ev.step (fun k=>by unfold zSameIns.f;rw [if_neg h0,no]) (Ev.now false),by rw [s47_eq];simp [h0]⟩
theorem ins_self (x:S47) (hx:Fit47 x):Ev (fun k=>zSameIns.f k x.f0 x.f1 x.f2 x.f3 x.f4 x.f5 x.f6 x.f7 x.f0 x.f1 x.f2 x.f3 x.f4 x.f5 x.f6 x.f7) true:=by
 obtain ⟨t,ht,hiff⟩:=ins_ev x x hx;rw [hiff.mpr rfl] at ht;exact ht
theorem ints_self (l:List Int) (hl:l.length≤9223372036854775807):Ev (fun k=>zSameInts.f k l l) true:=by
 obtain ⟨t,ht,hiff⟩:=ints_ev l l hl;rw [hiff.mpr rfl] at ht;exact ht
end Go.Proofs.Ytklknkfoafdgpaa.LiveSame
