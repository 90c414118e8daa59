import Derived.Test.YtklknkfoafdgpaaLiveNoth
import Derived.Test.YtklknkfoafdgpaaPLiveKnownx10
namespace Go.Proofs.Ytklknkfoafdgpaa.LiveFindP
open RowKit YtklknkfoafdgpaaW.PrintWords YtklknkfoafdgpaaW.PrintLast YtklknkfoafdgpaaW.PrintMore
open PLiveKnown LiveT LiveB LiveInv LiveSet LiveAhead LiveEnd LiveSettled LiveCopied LiveAft LiveRunP LiveSame LiveFit LiveEvt LiveAsked LiveNoth
set_option linter.unusedVariables false
set_option linter.unusedSimpArgs false
def asksL (l:List S82) (r:Int):Bool:=(regsOf l).contains r
theorem asksL_cons (x:S82) (l:List S82) (r:Int):asksL (x::l) r=if x.f0=0 then (if x.f1=r then true else asksL l r) else asksL l r:=by
 unfold asksL regsOf
 by_cases h0:x.f0=0
 ·rw [if_pos h0,List.filter_cons_of_pos (by simp [h0]),List.map_cons,List.contains_cons]
  by_cases h1:x.f1=r
  ·simp [h1]
  ·rw [if_neg h1,show (r==x.f1)=false by simpa using fun h=>h1 h.symm,Bool.false_or]
 ·rw [if_neg h0,List.filter_cons_of_neg (by simp [h0])]
theorem asks_l2 (r a0 a1 a2:Int) (l3:List S82) (a4 a5 a6:Int) (l7:List S78) (i:Nat) (hi:i<l7.length) (b:Bool) (hs:l7[i].f2.length≤9223372036854775806)
  (hnext:Ev (fun k=>portageref24_asks.l1 k r (wrap64 ((i:Int)+1)) a0 a1 a2 l3 a4 a5 a6 l7) b) (d:Nat):∀ j:Nat,l7[i].f2.length-j=d→j≤l7[i].f2.length →
  Ev (fun k=>portageref24_asks.l2 k r (i:Int) (j:Int) a0 a1 a2 l3 a4 a5 a6 l7) (asksL (l7[i].f2.drop j) r||b):=by
 have hx:rd_T78 l7 (i:Int)=l7[i]:=rd78 l7 i hi
 induction d with
 |zero =>
  intro j hd hj;rw [List.drop_eq_nil_of_le (by omega),show asksL [] r=false from rfl,Bool.false_or];exact Ev.step (fun k=>by simp only [portageref24_asks.l2];rw [if_pos (by omega),if_pos (by omega),hx,if_neg (by omega)]) hnext
 |succ d ih =>
  intro j hd hj;have hjl:j<l7[i].f2.length:=by omega
  have hy:rd_T82 l7[i].f2 (j:Int)=l7[i].f2[j]:=rd82 _ j hjl;have hw:wrap64 ((j:Int)+1)=((j+1:Nat):Int):=wrap_nat j _ hjl (by omega);rw [List.drop_eq_getElem_cons hjl,asksL_cons];have hst:∀ k,portageref24_asks.l2 (k+1) r (i:Int) (j:Int) a0 a1 a2 l3 a4 a5 a6 l7=if (l7[i].f2[j]).f0=0 then (if (l7[i].f2[j]).f1=r then some true else portageref24_asks.l2 k r (i:Int) ((j+1:Nat):Int) a0 a1 a2 l3 a4 a5 a6 l7) else portageref24_asks.l2 k r (i:Int) ((j+1:Nat):Int) a0 a1 a2 l3 a4 a5 a6 l7:=fun k=>by
   simp only [portageref24_asks.l2];rw [if_pos (by omega),if_pos (by omega),hx,if_pos (by omega),if_pos (by omega),hy,hw]
  by_cases h0:(l7[i].f2[j]).f0=0
  ·rw [if_pos h0]
   by_cases h1:(l7[i].f2[j]).f1=r
   ·rw [if_pos h1,Bool.true_or];exact Ev.step (fun k=>by rw [hst,if_pos h0,if_pos h1]) (Ev.now true)
   ·rw [if_neg h1];exact Ev.step (fun k=>by rw [hst,if_pos h0,if_neg h1]) (ih (j+1) (by omega) (by omega))
  ·rw [if_neg h0];exact Ev.step (fun k=>by rw [hst,if_neg h0]) (ih (j+1) (by omega) (by omega))
theorem asks_l1 (r a0 a1 a2:Int) (l3:List S82) (a4 a5 a6:Int) (l7:List S78) (hl:l7.length≤9223372036854775806) (hs:∀ i (hi:i<l7.length),l7[i].f2.length≤9223372036854775806) (d:Nat):∀ i:Nat,l7.length-i=d→i≤l7.length →
  Ev (fun k=>portageref24_asks.l1 k r (i:Int) a0 a1 a2 l3 a4 a5 a6 l7) ((l7.drop i).any fun s=>asksL s.f2 r):=by
 induction d with
 |zero =>
  intro i hd hi;rw [List.drop_eq_nil_of_le (by omega)];exact Ev.step (fun k=>by simp only [portageref24_asks.l1];rw [if_neg (by omega)]) (Ev.now false)
 |succ d ih =>
  intro i hd hi;have hil:i<l7.length:=by omega
  rw [List.drop_eq_getElem_cons hil,List.any_cons];have h:=asks_l2 r a0 a1 a2 l3 a4 a5 a6 l7 i hil _ (hs i hil) (by rw [wrap_nat i _ hil (by omega)];exact ih (i+1) (by omega) (by omega)) _ 0 rfl (Nat.zero_le _);rw [List.drop_zero] at h;exact Ev.step (fun k=>by simp only [portageref24_asks.l1];rw [if_pos (by omega)];rfl) h
theorem asks_ev (x:S47) (r:Int) (hx:Fit47 x):Ev (fun k=>portageref24_asks.f k x.f0 x.f1 x.f2 x.f3 x.f4 x.f5 x.f6 x.f7 r) (asks47 x r):=by
 have ha:=hx.args;have he:=hx.exits;have hs:∀ i (hi:i<x.f7.length),x.f7[i].f2.length≤9223372036854775806:=fun i hi=>by
  have:=hx.slots i hi;rw [rd78 _ i hi] at this;omega
 have key:∀ d i:Nat,x.f3.length-i=d→i≤x.f3.length→Ev (fun k=>portageref24_asks.l0 k r (i:Int) x.f0 x.f1 x.f2 x.f3 x.f4 x.f5 x.f6 x.f7) (asksL (x.f3.drop i) r||x.f7.any fun s=>asksL s.f2 r):=by
  intro d
  induction d with
  |zero =>
   intro i hd hi;rw [List.drop_eq_nil_of_le (by omega),show asksL [] r=false from rfl,Bool.false_or];have h1:=asks_l1 r x.f0 x.f1 x.f2 x.f3 x.f4 x.f5 x.f6 x.f7 (by omega) hs _ 0 rfl (Nat.zero_le _);rw [List.drop_zero] at h1;exact Ev.step (fun k=>by simp only [portageref24_asks.l0];rw [if_neg (by omega)];rfl) h1
  |succ d ih =>
   intro i hd hi;have hil:i<x.f3.length:=by omega
   have hy:rd_T82 x.f3 (i:Int)=x.f3[i]:=rd82 _ i hil;have hw:wrap64 ((i:Int)+1)=((i+1:Nat):Int):=wrap_nat i _ hil (by omega);rw [List.drop_eq_getElem_cons hil,asksL_cons];have hst:∀ k,portageref24_asks.l0 (k+1) r (i:Int) x.f0 x.f1 x.f2 x.f3 x.f4 x.f5 x.f6 x.f7=if (x.f3[i]).f0=0 then (if (x.f3[i]).f1=r then some true else portageref24_asks.l0 k r ((i+1:Nat):Int) x.f0 x.f1 x.f2 x.f3 x.f4 x.f5 x.f6 x.f7) else portageref24_asks.l0 k r ((i+1:Nat):Int) x.f0 x.f1 x.f2 x.f3 x.f4 x.f5 x.f6 x.f7:=fun k=>by
    simp only [portageref24_asks.l0];rw [if_pos (by omega),if_pos (by omega),hy,hw]
   by_cases h0:(x.f3[i]).f0=0
   ·rw [if_pos h0]
    by_cases h1:(x.f3[i]).f1=r
    ·rw [if_pos h1,Bool.true_or];exact Ev.step (fun k=>by rw [hst,if_pos h0,if_pos h1]) (Ev.now true)
    ·rw [if_neg h1];exact Ev.step (fun k=>by rw [hst,if_pos h0,if_neg h1]) (ih (i+1) (by omega) (by omega))
   ·rw [if_neg h0];exact Ev.step (fun k=>by rw [hst,if_neg h0]) (ih (i+1) (by omega) (by omega))
 have h:=key _ 0 rfl (Nat.zero_le _);rw [List.drop_zero] at h;exact Ev.congr (fun k=>rfl) h
theorem in_eq (S:RS) (hS:Regs S) (r:Int):zin.f (maskL S) r=some (S r):=by
 unfold zin.f
 by_cases h0:r≥0
 ·rw [if_pos h0]
  by_cases h1:r<512
  ·rw [if_pos (by rw [maskL_length];omega),if_pos (by omega)];obtain ⟨n,rfl⟩:∃ n:Nat,r=n:=⟨r.toNat,by omega⟩
   show some ((maskL S).getD (n:Int).toNat false)=_
   rw [Int.toNat_natCast,List.getD_eq_getElem?_getD,maskL_get S n (by omega)];rfl
  ·rw [if_neg (by rw [maskL_length];omega)];cases hs:S r with
   |false=>rfl
   |true=>have:=hS r hs;simp [inR] at this;omega
 ·rw [if_neg h0];cases hs:S r with
  |false=>rfl
  |true=>have:=hS r hs;simp [inR] at this;omega
theorem quiet_eq (x:S47):portageref24_quiet.f x.f0 x.f1 x.f2 x.f3 x.f4 x.f5 x.f6 x.f7=some (q47 x):=by
 unfold portageref24_quiet.f q47
 by_cases h0:x.f0=1
 ·simp [h0]
 ·simp [h0]
theorem rule_ev (x:S47) (S:RS) (hS:Regs S) (r:Int) (hr:inR r=true) (hx:Fit47 x):∃ k,zrule.f k x.f0 x.f1 x.f2 x.f3 x.f4 x.f5 x.f6 x.f7 (maskL S) r=some (LiveT.ahead (iOf x) S r):=by
 obtain ⟨k,hk⟩:=(asks_ev x r hx).rounds;refine ⟨k,?_⟩;unfold zrule.f;rw [hk,quiet_eq,in_eq S hS,in_eq S hS];simp only [Option.bind_some];have hq:(iOf x).q=q47 x:=rfl;have hd:(iOf x).d=x.f2:=rfl;have ha:(iOf x).a r=asks47 x r:=rfl;unfold LiveT.ahead idle;rw [hq,hd];cases h1:asks47 x r<;>cases h2:q47 x<;>cases h3:S x.f2<;>cases h4:S r<;>simp [ha,h1,h4,hr,bne_comm]
 all_goals (
  by_cases he:x.f2=r
  ·rw [he,h4] at h3;exact absurd h3 (by decide)
  ·first |simp [he];done |exact he |exact fun hh=>he hh.symm)
def fl3 (n:Nat) (L:Nat→Nat) (f:Nat→Nat→RS):List (List (List Bool)):=(List.range n).map fun b=>(List.range (L b)).map fun i=>maskL (f b i)
theorem fl3_length (n:Nat) (L:Nat→Nat) (f:Nat→Nat→RS):(fl3 n L f).length=n:=by simp [fl3]
theorem fl3_row (n:Nat) (L:Nat→Nat) (f:Nat→Nat→RS) (b:Nat) (hb:b<n) (hL:0<L b):rd_L10 (rd_L11 (fl3 n L f) (b:Int)) 0=maskL (f b 0)∧0<(rd_L11 (fl3 n L f) (b:Int)).length:=by
 have h1:rd_L11 (fl3 n L f) (b:Int)=(List.range (L b)).map fun i=>maskL (f b i):=by
  simp [rd_L11,fl3,List.getD_eq_getElem?_getD,hb]
 rw [h1];refine ⟨?_,by simpa using hL⟩
 simp [rd_L10,List.getD_eq_getElem?_getD,hL]
theorem next_ev (fn rg:Int) (bs:List S43) (L:Nat→Nat) (f:Nat→Nat→RS) (hL:∀ b,b<bs.length→0<L b) (b:Nat) (hb:b<bs.length) (r:Nat) (hr:r<512) (hn:(rd_T43 bs (b:Int)).f2.length≤9223372036854775806) :
  ∃ k,znext.f k fn rg bs (fl3 bs.length L f) (b:Int) (r:Int)=some (endd bs.length (fun m=>f m 0) (rd_T43 bs (b:Int)).f2 (r:Int)):=by
 generalize hnx:(rd_T43 bs (b:Int)).f2=nx at hn;have key:∀ d i:Nat,nx.length-i=d→i≤nx.length→Ev (fun k=>znext.l0 k (fl3 bs.length L f) (r:Int) nx (i:Int)) (endd bs.length (fun m=>f m 0) (nx.drop i) (r:Int)):=by
  intro d
  induction d with
  |zero =>
   intro i hd hi;rw [List.drop_eq_nil_of_le (by omega)]
   show Ev _ false
   exact Ev.step (fun k=>by simp only [znext.l0];rw [if_neg (by omega)]) (Ev.now false)
  |succ d ih =>
   intro i hd hi;have hil:i<nx.length:=by omega
   have hx:rd nx (i:Int)=nx[i]:=rdI nx i hil;have hw:wrap64 ((i:Int)+1)=((i+1:Nat):Int):=wrap_nat i _ hil (by omega);have hih:=ih (i+1) (by omega) (by omega);rw [List.drop_eq_getElem_cons hil];generalize nx[i]=y at hx;have he:endd bs.length (fun m=>f m 0) (y::nx.drop (i+1)) (r:Int)=((decide (0≤y)&&decide (y<bs.length)&&f y.toNat 0 (r:Int))||endd bs.length (fun m=>f m 0) (nx.drop (i+1)) (r:Int)):=by simp only [endd,List.any_cons]
   rw [he]
   by_cases h0:y≥0
   ·by_cases h1:y<bs.length
    ·obtain ⟨m,rfl⟩:∃ m:Nat,y=m:=⟨y.toNat,by omega⟩
     obtain ⟨hrow,hlen⟩:=fl3_row bs.length L f m (by omega) (hL m (by omega));have hv:rdOf false (maskL (f m 0)) (r:Int)=f m 0 (r:Int):=by
      show (maskL (f m 0)).getD (r:Int).toNat false=_
      rw [Int.toNat_natCast,List.getD_eq_getElem?_getD,maskL_get _ r hr];rfl
     have hst:∀ k,znext.l0 (k+1) (fl3 bs.length L f) (r:Int) nx (i:Int)=if f m 0 (r:Int)=true then some true else znext.l0 k (fl3 bs.length L f) (r:Int) nx ((i+1:Nat):Int):=fun k=>by
      simp only [znext.l0];rw [if_pos (by omega),if_pos (by omega),hx,if_pos h0,fl3_length,if_pos h1,if_pos h0,if_pos (by omega),if_pos (by omega),hrow,if_pos (by rw [maskL_length];omega),hv,hw]
     have hd1:decide ((m:Int)<(bs.length:Int))=true:=decide_eq_true h1;rw [show decide (0≤(m:Int))=true from decide_eq_true (by omega),hd1,Bool.true_and,Bool.true_and,Int.toNat_natCast];cases hf:f m 0 (r:Int) with
     |true =>
      rw [Bool.true_or];exact Ev.step (fun k=>by rw [hst,if_pos hf]) (Ev.now true)
     |false =>
      rw [Bool.false_or];exact Ev.step (fun k=>by rw [hst,if_neg (by rw [hf];decide)]) hih
    ·rw [show decide (y<(bs.length:Int))=false from decide_eq_false h1,Bool.and_false,Bool.false_and,Bool.false_or];exact Ev.step (fun k=>by simp only [znext.l0];rw [if_pos (by omega),if_pos (by omega),hx,if_pos h0,fl3_length,if_neg h1,hw]) hih
   ·rw [show decide (0≤y)=false from decide_eq_false (by omega),Bool.false_and,Bool.false_and,Bool.false_or];exact Ev.step (fun k=>by simp only [znext.l0];rw [if_pos (by omega),if_pos (by omega),hx,if_neg h0,hw]) hih
 obtain ⟨k,hk⟩:=(key _ 0 rfl (Nat.zero_le _)).rounds;refine ⟨k,?_⟩;rw [List.drop_zero] at hk;unfold znext.f;rw [if_pos (by omega),if_pos (by omega),hnx];exact hk
theorem raw_cell {W:World} {A:Option Addr} {n:Nat} {xs:List (List Value)} (h:Kd.C (Kd.raw 1) W A n xs) (j:Nat) (u:Value) (hj:xs[j]? =some [u]):∃ ad,A=some ad∧W.cell? (ad.add j)=some u:=by
 have hjl:j<xs.length:=(List.getElem?_eq_some_iff.mp hj).1;obtain ⟨h1,h2,h3⟩:=h;obtain ⟨ad,rfl,h4⟩:=h3 (by omega);obtain ⟨cs,hl,hK,hc⟩:=h4 j [u] hj;have hcs:cs=[u]:=hK.1;subst hcs;have h0:=hc 0 u rfl;rw [show j*(Kd.raw 1).sz+0=j from Nat.mul_one j] at h0;exact ⟨ad,rfl,h0⟩
theorem ks_C {W:World} {g:Nat} {S:RS} (h:KS W g 512 (fun r=>S (r:Int))):Kd.C Kd.bool W (some ⟨g,0,none⟩) 512 (maskL S):=by
 refine ⟨maskL_length S,by omega,fun _=>⟨⟨g,0,none⟩,rfl,fun j p hj=>?_⟩⟩;have hjl:j<512:=by have:=(List.getElem?_eq_some_iff.mp hj).1;rw [maskL_length] at this;exact this
 rw [maskL_get S j hjl] at hj;cases hj;refine ⟨[.bool (S (j:Int))],rfl,rfl,fun i u hu=>?_⟩;have hi0:i=0:=by have:=(List.getElem?_eq_some_iff.mp hu).1;simp at this;omega
 subst hi0;cases hu;have hc:=ks_cell h j hjl;have:(Addr.add ⟨g,0,none⟩ (j*Kd.bool.sz+0))=⟨g,j,none⟩:=by rw [add_plain,show j*Kd.bool.sz+0=j from Nat.mul_one j]
 rw [this];exact hc
section
variable {W:World} {base n:Nat} {v:Value} {L:Nat→Nat} {vs:Nat→Value} {H:Nat→Nat→Nat} {f:Nat→Nat→RS}
theorem W3.rd (h:W3 W base n v L vs H f) (b i:Nat) (hb:b<n) (hi:i<L b):∃ ad c ab cb,v= .slice (some ad) n c∧n≤c∧vs b= .slice (some ab) (L b) cb∧L b≤cb∧W.cell? (ad.add b)=some (.slice (some ab) (L b) cb)∧W.cell? (ab.add i)=some (.slice (some ⟨H b i,0,none⟩) 512 512)∧KS W (H b i) 512 (fun r=>f b i (r:Int)):=by
 obtain ⟨A,c,hv⟩:=Kd.R_slice h.top;have h1:=h.top;rw [hv] at h1;have hc:=Kd.R_reads' h1;rw [List.length_map,List.length_range] at hv hc;obtain ⟨ad,rfl,hcell⟩:=raw_cell hc.2.2 b (vs b) (by simp [hb]);obtain ⟨Ab,cb,hvb⟩:=Kd.R_slice (h.rows b hb);have h2:=h.rows b hb;rw [hvb] at h2;have hc2:=Kd.R_reads' h2;rw [List.length_map,List.length_range] at hvb hc2;obtain ⟨ab,rfl,hcell2⟩:=raw_cell hc2.2.2 i (.slice (some ⟨H b i,0,none⟩) 512 512) (by simp [hi,rowV]);rw [hvb] at hcell;exact ⟨ad,c,ab,cb,hv,hc.2.1,hvb,hc2.2.1,hcell,hcell2,h.cells b i hb hi⟩
set_option maxRecDepth 100000 in
theorem W3.C (h:W3 W base n v L vs H f):∃ A c,v= .slice A n c∧n≤c∧Kd.C (Kd.slice 53 (Kd.slice 4 Kd.bool)) W A n (fl3 n L f):=by
 obtain ⟨A,c,hv⟩:=Kd.R_slice h.top;have h1:=h.top;rw [hv] at h1;have hc:=Kd.R_reads' h1;rw [List.length_map,List.length_range] at hv hc;refine ⟨A,c,hv,hc.2.1,fl3_length _ _ _,hc.2.2.2.1,fun hn=>?_⟩;obtain ⟨ad,hA,_⟩:=raw_cell hc.2.2 0 (vs 0) (by simp [hn]);refine ⟨ad,hA,fun b p hp=>?_⟩;have hb:b<n:=by have:=(List.getElem?_eq_some_iff.mp hp).1;rw [fl3_length] at this;exact this
 have hp2:p=(List.range (L b)).map fun i=>maskL (f b i):=by
  simp only [fl3,List.getElem?_map,List.getElem?_range hb,Option.map_some,Option.some.injEq] at hp;exact hp.symm
 subst hp2;obtain ⟨Ab,cb,hvb⟩:=Kd.R_slice (h.rows b hb);have h2:=h.rows b hb;rw [hvb] at h2;have hc2:=Kd.R_reads' h2;rw [List.length_map,List.length_range] at hvb hc2;obtain ⟨ad',hA',hcell⟩:=raw_cell hc.2.2 b (vs b) (by simp [hb]);rw [hA] at hA';cases hA';refine ⟨[vs b],rfl,⟨Ab,cb,by rw [hvb];simp,by simpa using hc2.2.1,?_⟩,fun i u hu=>?_⟩
 ·rw [List.length_map,List.length_range];refine ⟨by simp,hc2.2.2.2.1,fun hl=>?_⟩;obtain ⟨ab,hAb,_⟩:=raw_cell hc2.2.2 0 (.slice (some ⟨H b 0,0,none⟩) 512 512) (by simp [hl,rowV]);refine ⟨ab,hAb,fun i q hq=>?_⟩;have hi:i<L b:=by have:=(List.getElem?_eq_some_iff.mp hq).1;simpa using this
  have hq2:q=maskL (f b i):=by
   simp only [List.getElem?_map,List.getElem?_range hi,Option.map_some,Option.some.injEq] at hq;exact hq.symm
  subst hq2;obtain ⟨ab',hAb',hcell2⟩:=raw_cell hc2.2.2 i (.slice (some ⟨H b i,0,none⟩) 512 512) (by simp [hi,rowV]);rw [hAb] at hAb';cases hAb';have hml:=maskL_length (f b i);have hkc:=ks_C (h.cells b i hb hi);generalize maskL (f b i)=M at hml hkc ⊢;refine ⟨[.slice (some ⟨H b i,0,none⟩) 512 512],rfl,⟨some ⟨H b i,0,none⟩,512,by rw [hml],by rw [hml];omega,by rw [hml];exact hkc⟩,fun j u hu=>?_⟩;have hj0:j=0:=by have:=(List.getElem?_eq_some_iff.mp hu).1;simp at this;omega
  subst hj0;cases hu;rw [show i*(Kd.slice 4 Kd.bool).sz+0=i from Nat.mul_one i];exact hcell2
 ·have hj0:i=0:=by have:=(List.getElem?_eq_some_iff.mp hu).1;simp at this;omega
  subst hj0;cases hu;rw [show b*(Kd.slice 53 (Kd.slice 4 Kd.bool)).sz+0=b from Nat.mul_one b];exact hcell
end
end Go.Proofs.Ytklknkfoafdgpaa.LiveFindP
namespace Go.Proofs.Ytklknkfoafdgpaa.LiveFindQ
open RowKit YtklknkfoafdgpaaW.PrintWords YtklknkfoafdgpaaW.PrintLast YtklknkfoafdgpaaW.PrintMore
open PLiveKnown LiveT LiveB LiveInv LiveSet LiveAhead LiveEnd LiveSettled LiveCopied LiveAft LiveRunP LiveSame LiveFit LiveEvt LiveAsked LiveNoth LiveFindP
set_option linter.unusedVariables false
set_option linter.unusedSimpArgs false
def insOf (bs:List S43) (b:Nat):List S47:=(rd_T43 bs (b:Int)).f1
def nxOf (bs:List S43) (b:Nat):List Int:=(rd_T43 bs (b:Int)).f2
def want (bs:List S43) (V:Nat→RS) (b i:Nat):RS:=back (((insOf bs b).drop i).map iOf) (endd bs.length V (nxOf bs b))
theorem want_regs {bs:List S43} {V:Nat→RS} (hV:Lfp (codeOf bs) V) (b i:Nat):Regs (want bs V b i):=
 back_regs _ (endd_regs _ fun n hn=>hV.regs (by rw [codeOf_length];exact hn))
theorem want_zero {bs:List S43} {V:Nat→RS} (hV:Lfp (codeOf bs) V) {b:Nat} (hb:b<bs.length):want bs V b 0=V b:=by
 have h:=hV.fix b _ (codeOf_get bs b hb);rw [codeOf_length] at h;rw [h];rfl
theorem want_end (bs:List S43) (V:Nat→RS) (b:Nat):want bs V b (insOf bs b).length=endd bs.length V (nxOf bs b):=by
 unfold want;rw [List.drop_length];rfl
theorem want_step (bs:List S43) (V:Nat→RS) (b i:Nat) (hi:i<(insOf bs b).length):want bs V b i=LiveT.ahead (iOf (rd_T47 (insOf bs b) i)) (want bs V b (i+1)):=back_drop _ _ i hi
def Snd (bs:List S43) (V:Nat→RS) (f:Nat→Nat→RS):Prop:=∀ b i,b<bs.length→i≤(insOf bs b).length→Le (f b i) (want bs V b i)
structure ClosedR (bs:List S43) (f:Nat→Nat→RS) (b:Nat) (r:Int):Prop where
 last:endd bs.length (fun m=>f m 0) (nxOf bs b) r=true→f b (insOf bs b).length r=true
 each:∀ i,i<(insOf bs b).length→LiveT.ahead (iOf (rd_T47 (insOf bs b) i)) (f b (i+1)) r=true→f b i r=true
theorem Snd.last {bs:List S43} {V:Nat→RS} {f:Nat→Nat→RS} (h:Snd bs V f) (hV:Lfp (codeOf bs) V) (b:Nat) (r:Int) (he:endd bs.length (fun m=>f m 0) (nxOf bs b) r=true):want bs V b (insOf bs b).length r=true:=by
 rw [want_end];obtain ⟨m,hm,hlt,hf⟩:=endd_true.mp he;refine endd_true.mpr ⟨m,hm,hlt,?_⟩;rw [←want_zero hV hlt];exact h m 0 hlt (Nat.zero_le _) r hf
theorem Snd.each {bs:List S43} {V:Nat→RS} {f:Nat→Nat→RS} (h:Snd bs V f) {b i:Nat} (hb:b<bs.length) (hi:i<(insOf bs b).length) (r:Int) (he:LiveT.ahead (iOf (rd_T47 (insOf bs b) i)) (f b (i+1)) r=true):want bs V b i r=true:=by
 rw [want_step bs V b i hi];exact ahead_mono _ (h b (i+1) hb (by omega)) r he
theorem Snd.upd {bs:List S43} {V:Nat→RS} {f:Nat→Nat→RS} (h:Snd bs V f) {b0 i0:Nat} {r0:Int} (hw:want bs V b0 i0 r0=true):Snd bs V (upd f b0 i0 r0):=by
 intro b i hb hi r hr;simp only [LiveNoth.upd] at hr
 split at hr
 ·rename_i hh
  rw [hh.1,hh.2.1,hh.2.2];exact hw
 ·exact h b i hb hi r hr
theorem addL_mem (S:RS) (l:List Int) (r:Int):addL S l r=true↔S r=true∨inR r=true∧r∈l:=by
 rw [addL_eq]
 simp
theorem slots_any (l:List S78) (r:Int):r∈slotsOf l↔(l.any fun s=>(regsOf s.f2).contains r)=true:=by
 simp [slotsOf,List.mem_flatMap]
theorem askI_mem (S:RS) (x:S47) (r:Int):askI S x r=true↔S r=true∨inR r=true∧asks47 x r=true:=by
 unfold askI asks47;rw [addL_mem,addL_mem,slots_any,Bool.or_eq_true,List.contains_iff_mem];constructor
 ·rintro ((h |h) |h)
  ·exact .inl h
  ·exact .inr ⟨h.1,.inl h.2⟩
  ·exact .inr ⟨h.1,.inr h.2⟩
 ·rintro (h |⟨h,h2 |h2⟩)
  ·exact .inl (.inl h)
  ·exact .inl (.inr ⟨h,h2⟩)
  ·exact .inr ⟨h,h2⟩
theorem askB_mem (l:List S47) (S:RS) (r:Int):askB S l r=true↔S r=true∨inR r=true∧∃ x∈l,asks47 x r=true:=by
 induction l generalizing S with
 |nil=>simp [askB]
 |cons x l ih =>
  show askB (askI S x) l r=true↔_
  rw [ih,askI_mem];constructor
  ·rintro ((h |h) |⟨h,y,hy,h2⟩)
   ·exact .inl h
   ·exact .inr ⟨h.1,x,List.mem_cons_self,h.2⟩
   ·exact .inr ⟨h,y,List.mem_cons_of_mem _ hy,h2⟩
  ·rintro (h |⟨h,y,hy,h2⟩)
   ·exact .inl (.inl h)
   ·rcases List.mem_cons.mp hy with rfl |hy
    ·exact .inl (.inr ⟨h,h2⟩)
    ·exact .inr ⟨h,y,hy,h2⟩
theorem askC_mem_aux (bs:List S43) (S:RS) (r:Int):(bs.foldl (fun S B=>askB S B.f1) S) r=true↔S r=true∨inR r=true∧∃ B∈bs,∃ x∈B.f1,asks47 x r=true:=by
 induction bs generalizing S with
 |nil=>simp
 |cons B bs ih =>
  rw [List.foldl_cons,ih,askB_mem];constructor
  ·rintro ((h |⟨h,x,hx,h2⟩) |⟨h,B',hB',h2⟩)
   ·exact .inl h
   ·exact .inr ⟨h,B,List.mem_cons_self,x,hx,h2⟩
   ·exact .inr ⟨h,B',List.mem_cons_of_mem _ hB',h2⟩
  ·rintro (h |⟨h,B',hB',x,hx,h2⟩)
   ·exact .inl (.inl h)
   ·rcases List.mem_cons.mp hB' with rfl |hB'
    ·exact .inl (.inr ⟨h,x,hx,h2⟩)
    ·exact .inr ⟨h,B',hB',x,hx,h2⟩
theorem askC_mem (bs:List S43) (r:Int):askC bs r=true↔inR r=true∧∃ B∈bs,∃ x∈B.f1,asks47 x r=true:=by
 unfold askC;rw [askC_mem_aux]
 simp [none']
theorem ahead_from {x:I} {S:RS} {r:Int} (h:LiveT.ahead x S r=true):S r=true∨inR r=true∧x.a r=true:=by
 unfold LiveT.ahead at h
 split at h
 ·exact .inl h
 ·simp only [Bool.or_eq_true,Bool.and_eq_true] at h
  rcases h with h |h
  ·exact .inl h.1
  ·exact .inr h
theorem back_from (l:List S47) (S:RS) (r:Int) (h:back (l.map iOf) S r=true):S r=true∨inR r=true∧∃ x∈l,asks47 x r=true:=by
 induction l with
 |nil=>exact .inl h
 |cons x l ih =>
  rcases ahead_from (h:LiveT.ahead (iOf x) (back (l.map iOf) S) r=true) with h |⟨h1,h2⟩
  ·rcases ih h with h |⟨h1,y,hy,h2⟩
   ·exact .inl h
   ·exact .inr ⟨h1,y,List.mem_cons_of_mem _ hy,h2⟩
  ·exact .inr ⟨h1,x,List.mem_cons_self,h2⟩
theorem insOf_mem {bs:List S43} {b:Nat} (hb:b<bs.length) {x:S47} (hx:x∈insOf bs b):∃ B∈bs,x∈B.f1:=by
 unfold insOf at hx;rw [rd43 bs b hb] at hx;exact ⟨bs[b],List.getElem_mem hb,hx⟩
theorem lfp_asked {bs:List S43} {V:Nat→RS} (hV:Lfp (codeOf bs) V) {b:Nat} (hb:b<bs.length):Le (V b) (askC bs):=by
 refine hV.least (fun _=>askC bs) (fun b B hB r hr=>?_) b (by rw [codeOf_length];exact hb);have hbl:b<bs.length:=by have:=(List.getElem?_eq_some_iff.mp hB).1;rwa [codeOf_length] at this
 rw [codeOf_get bs b hbl] at hB;cases hB
 rcases back_from _ _ r hr with h |⟨h1,x,hx,h2⟩
 ·obtain ⟨_,_,_,h⟩:=endd_true.mp h;exact h
 ·obtain ⟨B,hB,hx⟩:=insOf_mem hbl hx;exact (askC_mem bs r).mpr ⟨h1,B,hB,x,hx,h2⟩
theorem want_asked {bs:List S43} {V:Nat→RS} (hV:Lfp (codeOf bs) V) {b i:Nat} (hb:b<bs.length):Le (want bs V b i) (askC bs):=by
 intro r hr
 rcases back_from _ _ r hr with h |⟨h1,x,hx,h2⟩
 ·obtain ⟨m,_,hlt,h⟩:=endd_true.mp h;exact lfp_asked hV hlt r h
 ·obtain ⟨B,hB,hx⟩:=insOf_mem hb (List.mem_of_mem_drop hx);exact (askC_mem bs r).mpr ⟨h1,B,hB,x,hx,h2⟩
theorem found {bs:List S43} {V:Nat→RS} {f:Nat→Nat→RS} (hV:Lfp (codeOf bs) V) (hS:Snd bs V f) (hC:∀ b,b<bs.length→∀ r:Int,askC bs r=true→ClosedR bs f b r) (b i:Nat) (hb:b<bs.length) (hi:i≤(insOf bs b).length):f b i=want bs V b i:=by
 have asked:∀ b i r,b<bs.length→i≤(insOf bs b).length→f b i r=true→askC bs r=true:=fun b i r hb hi h=>want_asked hV hb r (hS b i hb hi r h)
 have key:∀ b,b<bs.length→∀ d i,(insOf bs b).length-i=d→i≤(insOf bs b).length→Le (back (((insOf bs b).drop i).map iOf) (endd bs.length (fun m=>f m 0) (nxOf bs b))) (f b i):=by
  intro b hb d
  induction d with
  |zero =>
   intro i hd hi r hr;obtain rfl:i=(insOf bs b).length:=by omega
   rw [List.drop_length] at hr;have hr:endd bs.length (fun m=>f m 0) (nxOf bs b) r=true:=hr;obtain ⟨m,_,hlt,h⟩:=endd_true.mp hr;exact (hC b hb r (asked m 0 r hlt (Nat.zero_le _) h)).last hr
  |succ d ih =>
   intro i hd hi r hr;have hil:i<(insOf bs b).length:=by omega
   rw [back_drop _ _ i hil] at hr;have h1:=ahead_mono _ (ih (i+1) (by omega) (by omega)) r hr;have hask:askC bs r=true:=by
    rcases ahead_from h1 with h |⟨h2,h3⟩
    ·exact asked b (i+1) r hb (by omega) h
    ·refine (askC_mem bs r).mpr ⟨h2,?_⟩;have hx:rd_T47 (insOf bs b) (i:Int)∈insOf bs b:=by rw [rd47 _ i hil];exact List.getElem_mem hil
     obtain ⟨B,hB,hx2⟩:=insOf_mem hb hx;exact ⟨B,hB,_,hx2,h3⟩
   exact (hC b hb r hask).each i hil h1
 have hpre:∀ b,b<bs.length→Le (V b) (f b 0):=fun b hb=>hV.least (fun m=>f m 0) (fun b B hB=>by
  have hbl:b<bs.length:=by have:=(List.getElem?_eq_some_iff.mp hB).1;rwa [codeOf_length] at this
  rw [codeOf_get bs b hbl] at hB;cases hB;rw [codeOf_length];have:=key b hbl _ 0 rfl (Nat.zero_le _);rw [List.drop_zero] at this;exact this) b (by rw [codeOf_length];exact hb)
 refine le_antisymm' (hS b i hb hi) ?_;exact Le.trans' (back_mono _ (endd_mono _ hpre)) (key b hb _ i rfl hi)
def cnt3 (f:Nat→Nat→RS) (L:Nat→Nat):Nat→Nat
 |0=>0
 |n+1=>cnt3 f L n+cnt (f n) (L n)
def room (L:Nat→Nat):Nat→Nat
 |0=>0
 |n+1=>room L n+L n*512
theorem cnt3_le (f:Nat→Nat→RS) (L:Nat→Nat) (n:Nat):cnt3 f L n≤room L n:=by
 induction n with
 |zero=>exact Nat.le_refl _
 |succ n ih=>simp only [cnt3,room];have:=cnt_le (f n) (L n);omega
theorem upd_le (f:Nat→Nat→RS) (b0 i0:Nat) (r0:Int) (b i:Nat):Le (f b i) (upd f b0 i0 r0 b i):=by
 intro r hr;simp only [LiveNoth.upd]
 split
 ·rfl
 ·exact hr
theorem cnt3_upd {f:Nat→Nat→RS} {L:Nat→Nat} {n b0 i0 r0:Nat} (hb:b0<n) (hi:i0<L b0) (hr:r0<512) (hf:f b0 i0 (r0:Int)=false) (hreg:Regs (f b0 i0)):cnt3 f L n<cnt3 (upd f b0 i0 (r0:Int)) L n:=by
 have hmono:∀ m,cnt3 f L m≤cnt3 (upd f b0 i0 (r0:Int)) L m:=by
  intro m
  induction m with
  |zero=>exact Nat.le_refl _
  |succ m ih=>simp only [cnt3];have:=cnt_mono (L m) (fun i _=>upd_le f b0 i0 (r0:Int) m i);omega
 have hlt:cnt (f b0) (L b0)<cnt (upd f b0 i0 (r0:Int) b0) (L b0):=by
  refine cnt_lt (L b0) (fun i _=>upd_le f b0 i0 (r0:Int) b0 i) i0 hi ?_ ?_
  ·intro r h;simp only [LiveNoth.upd] at h
   split at h
   ·rename_i hh;rw [hh.2.2];exact inR_nat r0 hr
   ·exact hreg r h
  ·intro he;have:=congrFun he (r0:Int);rw [hf] at this
   simp [LiveNoth.upd] at this
 induction n with
 |zero=>omega
 |succ n ih =>
  simp only [cnt3]
  by_cases he:b0=n
  ·subst he;have:=hmono b0;omega
  ·have h1:=ih (by omega);have h2:=cnt_mono (L n) (fun i _=>upd_le f b0 i0 (r0:Int) n i);omega
end Go.Proofs.Ytklknkfoafdgpaa.LiveFindQ
