import Derived.Test.YtklknkfoafdgpaaLiveM
import Derived.Test.YtklknkfoafdgpaaPLiveKnownx20
namespace Go.Proofs.Ytklknkfoafdgpaa.LiveMet
open RowKit YtklknkfoafdgpaaW.PrintWords YtklknkfoafdgpaaW.PrintLast YtklknkfoafdgpaaW.PrintMore
open PLiveKnown LiveT LiveM LiveSet LiveAhead LiveEnd LiveSettled LiveCopied LiveRunP LiveSame LiveFit LiveTaken
set_option linter.unusedVariables false
set_option linter.unusedSimpArgs false
def asksL (l:List S82) (r:Int):Bool:=(regsOf l).contains r
theorem asksL_cons (x:S82) (l:List S82) (r:Int):asksL (x::l) r=if x.f0=0 then (if x.f1=r then true else asksL l r) else asksL l r:=by
 unfold asksL regsOf
 by_cases h0:x.f0=0
 ·rw [if_pos h0,List.filter_cons_of_pos (by simp [h0]),List.map_cons,List.contains_cons]
  by_cases h1:x.f1=r
  ·simp [h1]
  ·rw [if_neg h1,show (r==x.f1)=false by simpa using fun h=>h1 h.symm,Bool.false_or]
 ·rw [if_neg h0,List.filter_cons_of_neg (by simp [h0])]
theorem asks_l2 (r a0 a1 a2:Int) (l3:List S82) (a4 a5 a6:Int) (l7:List S78) (i:Nat) (hi:i<l7.length) (b:Bool) (hs:l7[i].f2.length≤9223372036854775806)
  (hnext:Ev (fun k=>zasks.l1 k r (wrap64 ((i:Int)+1)) a0 a1 a2 l3 a4 a5 a6 l7) b) (d:Nat):∀ j:Nat,l7[i].f2.length-j=d→j≤l7[i].f2.length →
  Ev (fun k=>zasks.l2 k r (i:Int) (j:Int) a0 a1 a2 l3 a4 a5 a6 l7) (asksL (l7[i].f2.drop j) r||b):=by
 have hx:rd_T78 l7 (i:Int)=l7[i]:=rd78 l7 i hi
 induction d with
 |zero =>
  intro j hd hj;rw [List.drop_eq_nil_of_le (by omega),show asksL [] r=false from rfl,Bool.false_or];exact Ev.step (fun k=>by simp only [zasks.l2];rw [if_pos (by omega),if_pos (by omega),hx,if_neg (by omega)]) hnext
 |succ d ih =>
  intro j hd hj;have hjl:j<l7[i].f2.length:=by omega
  have hy:rd_T82 l7[i].f2 (j:Int)=l7[i].f2[j]:=rd82 _ j hjl;have hw:wrap64 ((j:Int)+1)=((j+1:Nat):Int):=wrap_nat j _ hjl (by omega);rw [List.drop_eq_getElem_cons hjl,asksL_cons];have hst:∀ k,zasks.l2 (k+1) r (i:Int) (j:Int) a0 a1 a2 l3 a4 a5 a6 l7=if (l7[i].f2[j]).f0=0 then (if (l7[i].f2[j]).f1=r then some true else zasks.l2 k r (i:Int) ((j+1:Nat):Int) a0 a1 a2 l3 a4 a5 a6 l7) else zasks.l2 k r (i:Int) ((j+1:Nat):Int) a0 a1 a2 l3 a4 a5 a6 l7:=fun k=>by
   simp only [zasks.l2];rw [if_pos (by omega),if_pos (by omega),hx,if_pos (by omega),if_pos (by omega),hy,hw]
  by_cases h0:(l7[i].f2[j]).f0=0
  ·rw [if_pos h0]
   by_cases h1:(l7[i].f2[j]).f1=r
   ·rw [if_pos h1,Bool.true_or];exact Ev.step (fun k=>by rw [hst,if_pos h0,if_pos h1]) (Ev.now true)
   ·rw [if_neg h1];exact Ev.step (fun k=>by rw [hst,if_pos h0,if_neg h1]) (ih (j+1) (by omega) (by omega))
  ·rw [if_neg h0];exact Ev.step (fun k=>by rw [hst,if_neg h0]) (ih (j+1) (by omega) (by omega))
theorem asks_l1 (r a0 a1 a2:Int) (l3:List S82) (a4 a5 a6:Int) (l7:List S78) (hl:l7.length≤9223372036854775806) (hs:∀ i (hi:i<l7.length),l7[i].f2.length≤9223372036854775806) (d:Nat):∀ i:Nat,l7.length-i=d→i≤l7.length →
  Ev (fun k=>zasks.l1 k r (i:Int) a0 a1 a2 l3 a4 a5 a6 l7) ((l7.drop i).any fun s=>asksL s.f2 r):=by
 induction d with
 |zero =>
  intro i hd hi;rw [List.drop_eq_nil_of_le (by omega)];exact Ev.step (fun k=>by simp only [zasks.l1];rw [if_neg (by omega)]) (Ev.now false)
 |succ d ih =>
  intro i hd hi;have hil:i<l7.length:=by omega
  rw [List.drop_eq_getElem_cons hil,List.any_cons];have h:=asks_l2 r a0 a1 a2 l3 a4 a5 a6 l7 i hil _ (hs i hil) (by rw [wrap_nat i _ hil (by omega)];exact ih (i+1) (by omega) (by omega)) _ 0 rfl (Nat.zero_le _);rw [List.drop_zero] at h;exact Ev.step (fun k=>by simp only [zasks.l1];rw [if_pos (by omega)];rfl) h
theorem asks_ev (x:S47) (r:Int) (hx:Fit47 x):Ev (fun k=>zasks.f k x.f0 x.f1 x.f2 x.f3 x.f4 x.f5 x.f6 x.f7 r) (asks47 x r):=by
 have ha:=hx.args;have he:=hx.exits;have hs:∀ i (hi:i<x.f7.length),x.f7[i].f2.length≤9223372036854775806:=fun i hi=>by
  have:=hx.slots i hi;rw [rd78 _ i hi] at this;omega
 have key:∀ d i:Nat,x.f3.length-i=d→i≤x.f3.length→Ev (fun k=>zasks.l0 k r (i:Int) x.f0 x.f1 x.f2 x.f3 x.f4 x.f5 x.f6 x.f7) (asksL (x.f3.drop i) r||x.f7.any fun s=>asksL s.f2 r):=by
  intro d
  induction d with
  |zero =>
   intro i hd hi;rw [List.drop_eq_nil_of_le (by omega),show asksL [] r=false from rfl,Bool.false_or];have h1:=asks_l1 r x.f0 x.f1 x.f2 x.f3 x.f4 x.f5 x.f6 x.f7 (by omega) hs _ 0 rfl (Nat.zero_le _);rw [List.drop_zero] at h1;exact Ev.step (fun k=>by simp only [zasks.l0];rw [if_neg (by omega)];rfl) h1
  |succ d ih =>
   intro i hd hi;have hil:i<x.f3.length:=by omega
   have hy:rd_T82 x.f3 (i:Int)=x.f3[i]:=rd82 _ i hil;have hw:wrap64 ((i:Int)+1)=((i+1:Nat):Int):=wrap_nat i _ hil (by omega);rw [List.drop_eq_getElem_cons hil,asksL_cons];have hst:∀ k,zasks.l0 (k+1) r (i:Int) x.f0 x.f1 x.f2 x.f3 x.f4 x.f5 x.f6 x.f7=if (x.f3[i]).f0=0 then (if (x.f3[i]).f1=r then some true else zasks.l0 k r ((i+1:Nat):Int) x.f0 x.f1 x.f2 x.f3 x.f4 x.f5 x.f6 x.f7) else zasks.l0 k r ((i+1:Nat):Int) x.f0 x.f1 x.f2 x.f3 x.f4 x.f5 x.f6 x.f7:=fun k=>by
    simp only [zasks.l0];rw [if_pos (by omega),if_pos (by omega),hy,hw]
   by_cases h0:(x.f3[i]).f0=0
   ·rw [if_pos h0]
    by_cases h1:(x.f3[i]).f1=r
    ·rw [if_pos h1,Bool.true_or];exact Ev.step (fun k=>by rw [hst,if_pos h0,if_pos h1]) (Ev.now true)
    ·rw [if_neg h1];exact Ev.step (fun k=>by rw [hst,if_pos h0,if_neg h1]) (ih (i+1) (by omega) (by omega))
   ·rw [if_neg h0];exact Ev.step (fun k=>by rw [hst,if_neg h0]) (ih (i+1) (by omega) (by omega))
 have h:=key _ 0 rfl (Nat.zero_le _);rw [List.drop_zero] at h;exact Ev.congr (fun k=>rfl) h
theorem along_ev (l:List S47) (o:List Bool) (r:Int) (hl:l.length≤9223372036854775806) (ho:o.length=l.length) (hf:∀ i,i<l.length→Fit47 (rd_T47 l (i:Nat))) (i:Nat) (hi:i≤l.length) :
  Ev (fun k=>zalong.f k l o i r) (al ((l.drop i).map iOf) (o.drop i) r):=by
 have key:∀ d i:Nat,l.length-i=d→i≤l.length→Ev (fun k=>zalong.l0 k l o r (i:Int)) (al ((l.drop i).map iOf) (o.drop i) r):=by
  intro d
  induction d with
  |zero =>
   intro i hd hi;rw [List.drop_eq_nil_of_le (by omega),List.map_nil];rw [show al [] (o.drop i) r=0 by simp [al]];exact Ev.step (fun k=>by simp only [zalong.l0];rw [if_neg (by omega)]) (Ev.now 0)
  |succ d ih =>
   intro i hd hi;have hil:i<l.length:=by omega
   have hio:i<o.length:=by omega
   have hx:rd_T47 l (i:Int)=l[i]:=rd47 l i hil;have hfx:=hf i hil;rw [hx] at hfx;have hb:rdOf false o (i:Int)=o[i]:=by simp [rdOf,List.getD_eq_getElem?_getD,hio]
   have hw:wrap64 ((i:Int)+1)=((i+1:Nat):Int):=wrap_nat i _ hil (by omega);rw [List.drop_eq_getElem_cons hil,List.drop_eq_getElem_cons hio,List.map_cons];simp only [al];have hst:∀ k,zalong.l0 (k+1) l o r (i:Int)=if o[i]=true then zalong.l0 k l o r ((i+1:Nat):Int) else (((fun k=>zasks.f k (l[i]).f0 (l[i]).f1 (l[i]).f2 (l[i]).f3 (l[i]).f4 (l[i]).f5 (l[i]).f6 (l[i]).f7 r) k).bind fun t=>if t=true then some 1 else if (l[i]).f2=r then some 2 else zalong.l0 k l o r ((i+1:Nat):Int)):=fun k=>by
    simp only [zalong.l0];rw [if_pos (by omega),if_pos (by omega),if_pos (by omega),hb,hx,hw]
   have hn:=ih (i+1) (by omega) (by omega)
   by_cases h0:o[i]=true
   ·rw [if_pos h0];exact Ev.step (fun k=>by rw [hst,if_pos h0]) hn
   ·rw [if_neg h0];refine Ev.step (fun k=>by rw [hst,if_neg h0]) (Ev.bind (asks_ev l[i] r hfx) ?_)
    show Ev (fun k=>if asks47 l[i] r=true then some 1 else if (l[i]).f2=r then some 2 else zalong.l0 k l o r ((i+1:Nat):Int)) (if asks47 l[i] r=true then 1 else if (l[i]).f2=r then 2 else al ((l.drop (i+1)).map iOf) (o.drop (i+1)) r)
    by_cases h1:asks47 l[i] r=true
    ·rw [if_pos h1];exact Ev.congr (fun k=>by rw [if_pos h1]) (Ev.now 1)
    ·rw [if_neg h1]
     by_cases h2:(l[i]).f2=r
     ·rw [if_pos h2];exact Ev.congr (fun k=>by rw [if_neg h1,if_pos h2]) (Ev.now 2)
     ·rw [if_neg h2];exact Ev.congr (fun k=>by rw [if_neg h1,if_neg h2]) hn
 exact Ev.congr (fun k=>rfl) (key _ i rfl hi)
def outsL (bs:List S43) (V:Nat→RS):List (List Bool):=bs.map fun B=>outs iOf B.f1 (endd bs.length V B.f2)
theorem outsL_length (bs:List S43) (V:Nat→RS):(outsL bs V).length=bs.length:=by simp [outsL]
theorem outsL_get (bs:List S43) (V:Nat→RS) (n:Nat) (hn:n<bs.length):rd_L10 (outsL bs V) (n:Int)=outs iOf (rd_T43 bs n).f1 (endd bs.length V (rd_T43 bs n).f2):=by
 rw [rd43 bs n hn]
 simp [rd_L10,outsL,List.getD_eq_getElem?_getD,hn]
theorem outsOf_get (bs:List S43) (V:Nat→RS) (n:Nat) (hn:n<bs.length):outsOf (codeOf bs) V n=outs iOf (rd_T43 bs n).f1 (endd bs.length V (rd_T43 bs n).f2):=by
 unfold outsOf;rw [codeOf_get bs n hn];simp only [codeOf_length,outs_map]
def alB (bs:List S43) (V:Nat→RS) (r:Int) (n:Nat):Int:=al ((rd_T43 bs n).f1.map iOf) (outsOf (codeOf bs) V n) r
def Succ (bs:List S43) (V:Nat→RS) (r:Int) (n:Nat):Prop:=∃ m:Nat,(m:Int)∈(rd_T43 bs n).f2∧m<bs.length∧LiveM.Way (codeOf bs) (outsOf (codeOf bs) V) r m
theorem way_here {bs:List S43} {V:Nat→RS} {r:Int} {n:Nat} (hn:n<bs.length) (h:alB bs V r n=1):LiveM.Way (codeOf bs) (outsOf (codeOf bs) V) r n:= .here n _ (codeOf_get bs n hn) h
theorem way_step {bs:List S43} {V:Nat→RS} {r:Int} {n:Nat} (hn:n<bs.length) (h:alB bs V r n=0) (hs:Succ bs V r n):LiveM.Way (codeOf bs) (outsOf (codeOf bs) V) r n:=by
 obtain ⟨m,hm,hlt,hw⟩:=hs;exact .step n _ (codeOf_get bs n hn) h m hm (by rw [codeOf_length];exact hlt) hw
structure MI (bs:List S43) (V:Nat→RS) (r:Int) (b:Nat) (was:List Bool) (work:List Int):Prop where
 wl:was.length=bs.length
 valid:∀ m∈work,0≤m∧m<bs.length
 reach:∀ m∈work,Succ bs V r m.toNat→Succ bs V r b
 seen1:∀ n:Nat,was[n]? =some true→alB bs V r n≠1
 seen0:∀ n:Nat,was[n]? =some true→alB bs V r n=0→((n:Nat):Int)∈work
 first:(b:Int)∈work
 short:work.length≤1+was.count true
def Done (bs:List S43) (was:List Bool) (work:List Int) (k:Nat):Prop:=∀ j:Nat,j<k→∀ m,work[j]? =some m→∀ n:Nat,(n:Int)∈(rd_T43 bs m).f2→n<bs.length→was[n]? =some true
theorem MI.no {bs:List S43} {V:Nat→RS} {r:Int} {b:Nat} {was:List Bool} {work:List Int} (h:MI bs V r b was work) (hd:Done bs was work work.length):¬ Succ bs V r b:=by
 rintro ⟨m,hm,hlt,hw⟩;have hdn:∀ n:Nat,(n:Int)∈work→∀ m:Nat,(m:Int)∈(rd_T43 bs (n:Int)).f2→m<bs.length→was[m]? =some true:=fun n hn m hm hlt=>by
  obtain ⟨j,hj,he⟩:=List.getElem_of_mem hn;exact hd j hj (n:Int) (by rw [List.getElem?_eq_getElem hj,he]) m hm hlt
 refine way_closed (fun n=>was[n]? =some true) (fun n B hn hB=>?_) (fun n B hn hB h0 m' hm' hlt'=>?_) (hdn b h.first m hm hlt) hw
 ·have hnl:n<bs.length:=by rw [←h.wl];exact (List.getElem?_eq_some_iff.mp hn).1
  rw [codeOf_get bs n hnl] at hB;cases hB;exact h.seen1 n hn
 ·have hnl:n<bs.length:=by rw [←h.wl];exact (List.getElem?_eq_some_iff.mp hn).1
  rw [codeOf_get bs n hnl] at hB;cases hB;rw [codeOf_length] at hlt';exact hdn n (h.seen0 n hn h0) m' hm' hlt'
theorem set_true {was:List Bool} {n:Nat} (hn:n<was.length) (m:Nat):(was.set n true)[m]? =some true↔m=n∨was[m]? =some true:=by
 rw [List.getElem?_set]
 by_cases h:n=m
 ·subst h;simp [hn]
 ·rw [if_neg h];exact ⟨.inr,fun hh=>hh.resolve_left fun he=>h he.symm⟩
theorem count_set {was:List Bool} {n:Nat} (hn:n<was.length) (hf:was[n]? =some false):(was.set n true).count true=was.count true+1:=by
 rw [List.getElem?_eq_getElem hn] at hf;have hf:=Option.some.inj hf;rw [List.count_set hn,hf]
 simp
theorem MI.seen {bs:List S43} {V:Nat→RS} {r:Int} {b:Nat} {was:List Bool} {work:List Int} (h:MI bs V r b was work) {n:Nat} (hn:n<bs.length) (hf:was[n]? =some false) (h1:alB bs V r n≠1) (h0:alB bs V r n≠0):MI bs V r b (was.set n true) work:=by
 have hnw:n<was.length:=by rw [h.wl];exact hn
 refine ⟨by rw [List.length_set];exact h.wl,h.valid,h.reach,fun m hm=>?_,fun m hm hz=>?_,h.first,by rw [count_set hnw hf];have:=h.short;omega⟩
 ·rcases (set_true hnw m).mp hm with rfl |hm
  ·exact h1
  ·exact h.seen1 m hm
 ·rcases (set_true hnw m).mp hm with rfl |hm
  ·exact absurd hz h0
  ·exact h.seen0 m hm hz
theorem MI.push {bs:List S43} {V:Nat→RS} {r:Int} {b:Nat} {was:List Bool} {work:List Int} (h:MI bs V r b was work) {n:Nat} (hn:n<bs.length) (hf:was[n]? =some false) (h0:alB bs V r n=0) {m:Int} (hm:m∈work) (hnx:(n:Int)∈(rd_T43 bs m).f2):MI bs V r b (was.set n true) (work++[(n:Int)]):=by
 have hnw:n<was.length:=by rw [h.wl];exact hn
 refine ⟨by rw [List.length_set];exact h.wl,fun x hx=>?_,fun x hx hs=>?_,fun x hx=>?_,fun x hx hz=>?_,List.mem_append_left _ h.first,by rw [count_set hnw hf,List.length_append,List.length_singleton];have:=h.short;omega⟩
 ·rcases List.mem_append.mp hx with hx |hx
  ·exact h.valid x hx
  ·rw [List.mem_singleton] at hx;subst hx;omega
 ·rcases List.mem_append.mp hx with hx |hx
  ·exact h.reach x hx hs
  ·rw [List.mem_singleton] at hx;subst hx;rw [Int.toNat_natCast] at hs;have hmv:=h.valid m hm;exact h.reach m hm ⟨n,by rw [Int.toNat_of_nonneg hmv.1];exact hnx,hn,way_step hn h0 hs⟩
 ·rcases (set_true hnw x).mp hx with rfl |hx
  ·rw [h0];decide
  ·exact h.seen1 x hx
 ·rcases (set_true hnw x).mp hx with rfl |hx
  ·exact List.mem_append_right _ (List.mem_singleton.mpr rfl)
  ·exact List.mem_append_left _ (h.seen0 x hx hz)
theorem Done.set {bs:List S43} {was:List Bool} {work:List Int} {k n:Nat} (h:Done bs was work k) (hn:n<was.length):Done bs (was.set n true) work k:=
 fun j hj m hm x hx hlt=>(set_true hn x).mpr (.inr (h j hj m hm x hx hlt))
theorem Done.append {bs:List S43} {was:List Bool} {work:List Int} {k:Nat} (h:Done bs was work k) (hk:k≤work.length) (y:Int):Done bs was (work++[y]) k:=
 fun j hj m hm x hx hlt=>h j hj m (by rw [List.getElem?_append_left (by omega)] at hm;exact hm) x hx hlt
section
variable (fn rg:Int) (bs:List S43) (V:Nat→RS) (r:Int) (b:Nat) (hf:FitC bs)
include hf
theorem met_l1 (work0:List Int) (k:Nat) (res:List Bool→List Int→Bool) (m:Int) (hnb:bs.length≤2513169434917)
  (hres:∀ was work,MI bs V r b was work→k<work.length→Done bs was work (k+1)→∃ t,Ev (fun f=>zmet.l0 f (outsL bs V) r was work ((k+1:Nat):Int) fn rg bs) t∧(t=true↔Succ bs V r b)) (d:Nat) :
  ∀ i:Nat,(rd_T43 bs m).f2.length-i=d→i≤(rd_T43 bs m).f2.length→∀ was work,MI bs V r b was work→Done bs was work k→work[k]? =some m→(∀ j:Nat,j<i→∀ n:Nat,(rd_T43 bs m).f2[j]? =some (n:Int)→n<bs.length→was[n]? =some true) →
  ∃ t,Ev (fun f=>zmet.l1 f (outsL bs V) r was work (k:Int) (rd_T43 bs m).f2 (i:Int) fn rg bs) t∧(t=true↔Succ bs V r b):=by
 induction d with
 |zero =>
  intro i hd hi was work hM hD hk hj;have hkl:k<work.length:=(List.getElem?_eq_some_iff.mp hk).1;have hw:wrap64 ((k:Int)+1)=((k+1:Nat):Int):=wrap_nat k _ hkl (by have:=hM.short;have:=List.count_le_length (a:=true) (l:=was);have:=hM.wl;omega);obtain ⟨t,ht,hiff⟩:=hres was work hM hkl (fun j hjk m' hm' n hn hlt=>by
   by_cases hjk2:j=k
   ·subst hjk2;rw [hk] at hm';cases hm';obtain ⟨q,hq,he⟩:=List.getElem_of_mem hn;exact hj q (by omega) n (by rw [List.getElem?_eq_getElem hq,he]) hlt
   ·exact hD j (by omega) m' hm' n hn hlt)
  exact ⟨t,Ev.step (fun f=>by simp only [zmet.l1];rw [if_neg (by omega),hw]) ht,hiff⟩
 |succ d ih =>
  intro i hd hi was work hM hD hk hj;have hil:i<(rd_T43 bs m).f2.length:=by omega
  have hmem:m∈work:=List.mem_of_getElem? hk;have hmv:=hM.valid m hmem;have hx:rd (rd_T43 bs m).f2 (i:Int)=(rd_T43 bs m).f2[i]:=rdI _ i hil;have hnl:(rd_T43 bs m).f2.length≤9223372036854775806:=by
   have:=hf.next m.toNat (by omega);rw [Int.toNat_of_nonneg hmv.1] at this;omega
  have hwi:wrap64 ((i:Int)+1)=((i+1:Nat):Int):=wrap_nat i _ hil (by omega);have hgi:(rd_T43 bs m).f2[i]? =some ((rd_T43 bs m).f2[i]):=List.getElem?_eq_getElem hil;have hmm:(rd_T43 bs m).f2[i]∈(rd_T43 bs m).f2:=List.getElem_mem hil;generalize (rd_T43 bs m).f2[i]=y at hx hgi hmm;have skip:(∀ n:Nat,y=(n:Int)→n<bs.length→was[n]? =some true)→∃ t,Ev (fun f=>zmet.j2 f (outsL bs V) r was work (k:Int) (rd_T43 bs m).f2 (i:Int) y true fn rg bs) t∧(t=true↔Succ bs V r b):=fun hs=>by
   obtain ⟨t,ht,hiff⟩:=ih (i+1) (by omega) (by omega) was work hM hD hk (fun j hj1 n hn hlt=>by
    by_cases hji:j=i
    ·subst hji;rw [hgi] at hn;exact hs n (Option.some.inj hn) hlt
    ·exact hj j (by omega) n hn hlt)
   exact ⟨t,Ev.step (fun f=>by simp only [zmet.j2];rw [if_pos trivial,hwi]) ht,hiff⟩
  by_cases h0:y<0
  ·obtain ⟨t,ht,hiff⟩:=skip (fun n hn hlt=>by omega);exact ⟨t,Ev.step (fun f=>by simp only [zmet.l1];rw [if_pos (by omega),if_pos (by omega),hx,if_pos h0]) ht,hiff⟩
  ·by_cases h1:y≥(was.length:Int)
   ·obtain ⟨t,ht,hiff⟩:=skip (fun n hn hlt=>by have:=hM.wl;omega);exact ⟨t,Ev.step (fun f=>by simp only [zmet.l1];rw [if_pos (by omega),if_pos (by omega),hx,if_neg h0,if_pos h1]) ht,hiff⟩
   ·obtain ⟨n,rfl⟩:∃ n:Nat,y=n:=⟨y.toNat,by omega⟩
    have hnw:n<was.length:=by omega
    have hnb':n<bs.length:=by rw [←hM.wl];exact hnw
    have hr:rdOf false was (n:Int)=was[n]:=by simp [rdOf,List.getD_eq_getElem?_getD,hnw]
    have hst:∀ f,zmet.l1 (f+1) (outsL bs V) r was work (k:Int) (rd_T43 bs m).f2 (i:Int) fn rg bs=zmet.j2 f (outsL bs V) r was work (k:Int) (rd_T43 bs m).f2 (i:Int) (n:Int) was[n] fn rg bs:=fun f=>by
     simp only [zmet.l1];rw [if_pos (by omega),if_pos (by omega),hx,if_neg h0,if_neg h1,if_pos (by omega),if_pos (by omega),hr]
    cases hwn:was[n] with
    |true =>
     obtain ⟨t,ht,hiff⟩:=skip (fun n' hn' hlt=>by
      have:n=n':=by omega
      subst this;rw [List.getElem?_eq_getElem hnw,hwn])
     exact ⟨t,Ev.step (fun f=>by rw [hst,hwn]) ht,hiff⟩
    |false =>
     have hwf:was[n]? =some false:=by rw [List.getElem?_eq_getElem hnw,hwn]
     have hla:=along_ev (rd_T43 bs n).f1 (outs iOf (rd_T43 bs n).f1 (endd bs.length V (rd_T43 bs n).f2)) r (by have:=hf.ins n hnb';omega) (outs_length _ _ _) (hf.each n hnb') 0 (Nat.zero_le _);rw [List.drop_zero,List.drop_zero,←outsOf_get bs V n hnb'] at hla;have hla:Ev (fun f=>zalong.f f (rd_T43 bs n).f1 (outsOf (codeOf bs) V n) (0:Nat) r) (alB bs V r n):=hla
     have hj2:∀ f,zmet.j2 (f+1) (outsL bs V) r was work (k:Int) (rd_T43 bs m).f2 (i:Int) (n:Int) false fn rg bs=((fun f=>zalong.f f (rd_T43 bs n).f1 (outsOf (codeOf bs) V n) (0:Nat) r) f).bind fun t=>if t=1 then some true else if t=0 then (if work.length<17592186044416 then zmet.l1 f (outsL bs V) r (was.set n true) (work++[(n:Int)]) (k:Int) (rd_T43 bs m).f2 ((i+1:Nat):Int) fn rg bs else none) else zmet.l1 f (outsL bs V) r (was.set n true) work (k:Int) (rd_T43 bs m).f2 ((i+1:Nat):Int) fn rg bs:=fun f=>by
      simp only [zmet.j2];rw [if_neg (by decide),if_pos (by omega),if_pos (by omega),hwi];simp only [Option.bind_some,Int.toNat_natCast];rw [if_pos (by omega),if_pos (by rw [outsL_length];omega),outsL_get bs V n hnb',outsOf_get bs V n hnb'];rfl
     have hgo:∃ t,Ev (fun f=>zmet.j2 f (outsL bs V) r was work (k:Int) (rd_T43 bs m).f2 (i:Int) (n:Int) false fn rg bs) t∧(t=true↔Succ bs V r b):=by
      have hkl:k<work.length:=(List.getElem?_eq_some_iff.mp hk).1
      by_cases ha1:alB bs V r n=1
      ·refine ⟨true,Ev.step hj2 (Ev.bind hla (Ev.congr (fun f=>by rw [if_pos ha1]) (Ev.now true))),?_⟩;refine ⟨fun _=>hM.reach m hmem ⟨n,by rw [Int.toNat_of_nonneg hmv.1];exact hmm,hnb',way_here hnb' ha1⟩,fun _=>rfl⟩
      ·have hset:∀ j:Nat,j<i+1→∀ n':Nat,(rd_T43 bs m).f2[j]? =some (n':Int)→n'<bs.length→(was.set n true)[n']? =some true:=fun j hj1 n' hn' hlt=>by
        rw [set_true hnw]
        by_cases hji:j=i
        ·subst hji;rw [hgi] at hn';have:=Option.some.inj hn';exact .inl (by omega)
        ·exact .inr (hj j (by omega) n' hn' hlt)
       by_cases ha0:alB bs V r n=0
       ·obtain ⟨t,ht,hiff⟩:=ih (i+1) (by omega) (by omega) (was.set n true) (work++[(n:Int)]) (hM.push hnb' hwf ha0 hmem hmm) ((hD.set hnw).append (by omega) _) (by rw [List.getElem?_append_left hkl];exact hk) hset;have hsz:work.length<17592186044416:=by have:=hM.short;have:=List.count_le_length (a:=true) (l:=was);have:=hM.wl;omega
        exact ⟨t,Ev.step hj2 (Ev.bind hla (Ev.congr (fun f=>by rw [if_neg ha1,if_pos ha0,if_pos hsz]) ht)),hiff⟩
       ·obtain ⟨t,ht,hiff⟩:=ih (i+1) (by omega) (by omega) (was.set n true) work (hM.seen hnb' hwf ha1 ha0) (hD.set hnw) hk hset;exact ⟨t,Ev.step hj2 (Ev.bind hla (Ev.congr (fun f=>by rw [if_neg ha1,if_neg ha0]) ht)),hiff⟩
     obtain ⟨t,ht,hiff⟩:=hgo;exact ⟨t,Ev.step (fun f=>by rw [hst,hwn]) ht,hiff⟩
theorem met_l0 (hnb:bs.length≤2513169434917) (d:Nat):∀ k:Nat,bs.length+1-k=d→∀ was work,MI bs V r b was work→k≤work.length→Done bs was work k →
  ∃ t,Ev (fun f=>zmet.l0 f (outsL bs V) r was work (k:Int) fn rg bs) t∧(t=true↔Succ bs V r b):=by
 induction d with
 |zero =>
  intro k hd was work hM hk hD;have hle:work.length≤1+bs.length:=by have:=hM.short;have:=List.count_le_length (a:=true) (l:=was);have:=hM.wl;omega
  obtain rfl:k=work.length:=by omega
  exact ⟨false,Ev.step (fun f=>by simp only [zmet.l0];rw [if_neg (by omega)]) (Ev.now false),by simp [hM.no hD]⟩
 |succ d ih =>
  intro k hd was work hM hk hD
  by_cases hkl:k<work.length
  ·have hx:rd work (k:Int)=work[k]:=rdI _ k hkl;have hgk:work[k]? =some work[k]:=List.getElem?_eq_getElem hkl;generalize work[k]=m at hx hgk;have hmv:=hM.valid m (List.mem_of_getElem? hgk);obtain ⟨t,ht,hiff⟩:=met_l1 fn rg bs V r b hf work k (fun _ _=>true) m hnb (fun was work hM hk hD=>ih (k+1) (by omega) was work hM (by omega) hD) _ 0 rfl (Nat.zero_le _) was work hM hD hgk (fun j hj=>by omega);exact ⟨t,Ev.step (fun f=>by simp only [zmet.l0];rw [if_pos (by omega),if_pos (by omega),hx,if_pos hmv.1,if_pos hmv.2];rfl) ht,hiff⟩
  ·obtain rfl:k=work.length:=by omega
   exact ⟨false,Ev.step (fun f=>by simp only [zmet.l0];rw [if_neg (by omega)]) (Ev.now false),by simp [hM.no hD]⟩
theorem met_ev (hV:Lfp (codeOf bs) V) (i:Nat) (hr:inR r=true) (hb:b<bs.length) (hi:i≤(rd_T43 bs b).f1.length) :
  ∃ k,zmet.f k fn rg bs (outsL bs V) (b:Int) (i:Int) r=some (back (((rd_T43 bs b).f1.drop i).map iOf) (endd bs.length V (rd_T43 bs b).f2) r):=by
 have hnb:bs.length≤2513169434917:=by have:=hf.blocks;omega
 have hla:=along_ev (rd_T43 bs b).f1 (outs iOf (rd_T43 bs b).f1 (endd bs.length V (rd_T43 bs b).f2)) r (by have:=hf.ins b hb;omega) (outs_length _ _ _) (hf.each b hb) i hi;have hw:=met_wanted hV r hr b i _ (codeOf_get bs b hb);have hmet:LiveM.Met (codeOf bs) (outsOf (codeOf bs) V) b i r↔(al (((rd_T43 bs b).f1.drop i).map iOf) ((outs iOf (rd_T43 bs b).f1 (endd bs.length V (rd_T43 bs b).f2)).drop i) r=1∨al (((rd_T43 bs b).f1.drop i).map iOf) ((outs iOf (rd_T43 bs b).f1 (endd bs.length V (rd_T43 bs b).f2)).drop i) r=0∧Succ bs V r b):=by
  unfold LiveM.Met Succ;rw [codeOf_get bs b hb,codeOf_length,outsOf_get bs V b hb];constructor
  ·rintro ⟨B,hB,h⟩;cases hB
   simpa only [List.map_drop] using h
  ·intro h;exact ⟨_,rfl,by simpa only [List.map_drop] using h⟩
 rw [codeOf_length] at hw;simp only [←List.map_drop] at hw;rw [hmet] at hw;generalize al (((rd_T43 bs b).f1.drop i).map iOf) ((outs iOf (rd_T43 bs b).f1 (endd bs.length V (rd_T43 bs b).f2)).drop i) r=q at hla hw;have hst:∀ f,zmet.f f fn rg bs (outsL bs V) (b:Int) (i:Int) r=((fun f=>zalong.f f (rd_T43 bs b).f1 (outs iOf (rd_T43 bs b).f1 (endd bs.length V (rd_T43 bs b).f2)) (i:Int) r) f).bind fun t=>if t=0 then zmet.l0 f (outsL bs V) r (List.replicate bs.length false) [(b:Int)] ((0:Nat):Int) fn rg bs else some (t==1):=fun f=>by
  unfold zmet.f;rw [if_pos (by omega),if_pos (by omega),if_pos (by omega),if_pos (by omega),if_pos (by rw [outsL_length];omega),outsL_get bs V b hb,Int.toNat_natCast];rfl
 by_cases hq:q=0
 ·have hM:MI bs V r b (List.replicate bs.length false) [(b:Int)]:=by
   have hno:∀ n:Nat,¬ (List.replicate bs.length false)[n]? =some true:=fun n h=>by
    rw [List.getElem?_replicate] at h
    split at h<;>simp at h
   refine ⟨by simp,fun m hm=>?_,fun m hm hs=>?_,fun n h=>absurd h (hno n),fun n h=>absurd h (hno n),List.mem_singleton.mpr rfl,by simp⟩
   ·rw [List.mem_singleton] at hm;omega
   ·rw [List.mem_singleton] at hm;subst hm;simpa using hs
  obtain ⟨t,ht,hiff⟩:=met_l0 fn rg bs V r b hf hnb _ 0 rfl _ _ hM (Nat.zero_le _) (fun j hj=>by omega);obtain ⟨k,hk⟩:=(Ev.congr hst (Ev.bind hla (Ev.congr (fun f=>by rw [if_pos hq]) ht))).rounds;refine ⟨k,hk.trans (congrArg some ?_)⟩;have:t=true↔back (((rd_T43 bs b).f1.drop i).map iOf) (endd bs.length V (rd_T43 bs b).f2) r=true:=by
   rw [hiff,←hw];constructor
   ·exact fun h=> .inr ⟨hq,h⟩
   ·rintro (h |h)
    ·omega
    ·exact h.2
  exact Bool.eq_iff_iff.mpr this
 ·obtain ⟨k,hk⟩:=(Ev.congr hst (Ev.bind hla (Ev.congr (fun f=>by rw [if_neg hq]) (Ev.now (q==1))))).rounds;refine ⟨k,hk.trans (congrArg some ?_)⟩;apply Bool.eq_iff_iff.mpr;rw [←hw];simp only [beq_iff_eq];exact ⟨.inl,fun h=>h.resolve_right fun hh=>hq hh.1⟩
end
end Go.Proofs.Ytklknkfoafdgpaa.LiveMet
