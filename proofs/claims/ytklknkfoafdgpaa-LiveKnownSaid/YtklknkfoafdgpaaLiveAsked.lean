import Derived.Test.YtklknkfoafdgpaaOpen
import Derived.Test.YtklknkfoafdgpaaRows
import Derived.Test.YtklknkfoafdgpaaLiveKn
import Derived.Test.YtklknkfoafdgpaaLiveFit
import Derived.Test.YtklknkfoafdgpaaLiveEqR
import Derived.Test.YtklknkfoafdgpaaPLiveKnownx6
namespace Go.Proofs.Ytklknkfoafdgpaa.Bulk
open RowKit WideShapes ChangeShapes ChangeAt
open YtklknkfoafdgpaaW.PrintWords Go.Proofs.Ytklknkfoafdgpaa.Open
set_option linter.unusedVariables false
set_option linter.unusedSimpArgs false
def Bears (P:Program) (t:TypeId) {α:Type} (d:Kd α) (m:α→Nat):Prop:=
 ∀ (H:Type) (enc:TypeId×Value→H) (w:World) (base:Nat) (spare:Nat→Bool) (held:Bool) (fuel:Nat) (cs:List Value) (x:DataW H×List MemPlace),
  DataW.trod enc P w base spare held fuel t cs=some x→∃ a:α,d.K w a cs∧m a≤Rows.uptoBulk x.1
section
variable {P:Program} {t e:TypeId} {α β:Type} {d:Kd α} {d':Kd β} {m:α→Nat} {m':β→Nat}
theorem one_le {H:Type} (x:DataW H):1≤Rows.uptoBulk x:=by
 cases x with
 |lit l=>cases l<;>simp [Rows.uptoBulk]
 |_=>simp [Rows.uptoBulk]
theorem bears_int {k:IntKind} (ht:P.underlying t=some (.int k)):Bears P t (Kd.int k) (fun _=>1):=by
 intro H enc w base spare held fuel cs x h;obtain ⟨n,rfl,_,hw⟩:=DataW.trod_int ht h;exact ⟨n,rfl,one_le _⟩
theorem sum_all {H:Type}:∀ (xs:List α) (ys:List (DataW H)),xs.length=ys.length→(∀ (i:Nat) a y,xs[i]? =some a→ys[i]? =some y→m a≤Rows.uptoBulk y)→(xs.map m).sum≤Rows.uptoBulkAll ys
 |[],_,_,_=>Nat.zero_le _
 |a::xs,[],h,_=>by cases h
 |a::xs,y::ys,h,hi=>by
  simp only [List.map_cons,List.sum_cons,Rows.uptoBulkAll];have h0:=hi 0 a y rfl rfl;have h1:=sum_all xs ys (by simpa using h) (fun i b z hb hz=>hi (i+1) b z hb hz);omega
theorem bears_slice (ht:P.underlying t=some (.slice e)) (hd:Bears P e d m) (hs:P.cellsOf e=d.sz):Bears P t (Kd.slice e d) (fun xs=>(xs.map m).sum+1):=by
 intro H enc w base spare held fuel cs x h
 rcases Go.Deep.open_slice ht h with ⟨rfl,rfl⟩ |⟨a,len,cap,mm,n,D,Pl,rfl,hb,hl,hm,hmm,rfl,hi⟩
 ·exact ⟨[],⟨none,0,rfl,Nat.le_refl _,Kd.C_nil d w⟩,one_le _⟩
 ·have hlm:len≤mm:=by rw [hmm];split<;>omega
  have hel:∀ i,i<len→∃ x:α,(∃ c,c.length=d.sz∧d.K w x c∧∀ j u,c[j]? =some u→w.cell? (a.add (i*d.sz+j))=some u)∧m x≤Rows.uptoBulk (D i):=by
   intro i hil;obtain ⟨cs',hc,hr⟩:=hi i (by omega);obtain ⟨_,hcl,hcell⟩:=World.cells?_some hc;obtain ⟨x,hK,hG⟩:=hd H enc w base spare held n cs' (D i,Pl i) hr;refine ⟨x,⟨cs',by rw [hcl,hs],hK,fun j u hu=>?_⟩,hG⟩;have hj:j<P.cellsOf e:=by rw [←hcl];exact (List.getElem?_eq_some_iff.1 hu).1
   have:=hcell j hj;rw [←hu,←this,←hs,Go.Deep.add_add]
  obtain ⟨xs,hxl,hx⟩:=choose_list hel;refine ⟨xs,⟨some a,cap,by rw [hxl],by omega,rfl,?_,fun _=>⟨a,rfl,fun j p hp=>(hx j p hp).1⟩⟩,?_⟩
  ·simp only [maxLen] at hm;omega
  ·simp only [Rows.uptoBulk];have h1:=sum_all (m:=m) xs ((List.range len).map D) (by simp [hxl]) (fun i b y hb hy=>by
    have hil:i<len:=by rw [←hxl];exact (List.getElem?_eq_some_iff.1 hb).1
    have hy':D i=y:=by simpa [hil] using hy
    rw [←hy'];exact (hx i b hb).2)
   omega
def BearsF (P:Program) (fs:List Field) (off:Nat) {α:Type} (d:Kd α) (m:α→Nat):Prop:=
 ∀ (H:Type) (enc:TypeId×Value→H) (w:World) (base:Nat) (spare:Nat→Bool) (held:Bool) (fuel:Nat) (cs:List Value) (xs:List (DataW H×List MemPlace)),
  cs.length=off+d.sz→(∀ (i:Nat) (f:Field),fs[i]? =some f→DataW.trod enc P w base spare held fuel f.type ((cs.drop f.offset).take (P.cellsOf f.type))=xs[i]?)→xs.length=fs.length →
  ∃ a:α,d.K w a (cs.drop off)∧m a≤Rows.uptoBulkAll (xs.map (·.1))
theorem bearsF_one {f:Field} {off:Nat} (h:Bears P f.type d m) (ho:f.offset=off) (hs:P.cellsOf f.type=d.sz):BearsF P [f] off d m:=by
 intro H enc w base spare held fuel cs xs hl hx hxl
 match xs,hxl with
 |[x],_ =>
  have h0:=hx 0 f rfl;rw [ho,hs,List.take_of_length_le (by rw [List.length_drop];omega)] at h0;obtain ⟨a,hK,hm⟩:=h H enc w base spare held fuel _ x h0;exact ⟨a,hK,by simpa [Rows.uptoBulkAll] using hm⟩
theorem bearsF_cons {f:Field} {fs:List Field} {off:Nat} (h:Bears P f.type d m) (ho:f.offset=off) (hs:P.cellsOf f.type=d.sz) (hr:BearsF P fs (off+d.sz) d' m') :
  BearsF P (f::fs) off (Kd.pair d d') (fun p=>m p.1+m' p.2):=by
 intro H enc w base spare held fuel cs xs hl hx hxl
 match xs,hxl with
 |x::xs,hxl =>
  have h0:=hx 0 f rfl;rw [ho,hs] at h0;obtain ⟨a,hK,hG⟩:=h H enc w base spare held fuel _ x h0;have hl':cs.length=off+(d.sz+d'.sz):=hl;obtain ⟨b,hK',hG'⟩:=hr H enc w base spare held fuel cs xs (by omega) (fun i g hg=>hx (i+1) g hg) (by simpa using hxl);refine ⟨(a,b),⟨(cs.drop off).take d.sz,cs.drop (off+d.sz),?_,hK,hK'⟩,?_⟩
  ·rw [←List.drop_drop,List.take_append_drop]
  ·simp only [List.map_cons,Rows.uptoBulkAll];exact Nat.add_le_add hG hG'
theorem bears_struct {fs:Array Field} (ht:P.underlying t=some (.struct fs)) (h:BearsF P fs.toList 0 d m) (hs:P.cellsOf t=d.sz):Bears P t d m:=by
 intro H enc w base spare held fuel cs x hx;obtain ⟨xs,n,_,rfl,hl,hxl,hf⟩:=DataW.trod_struct ht hx;obtain ⟨a,hK,hm⟩:=h H enc w base spare held n cs xs (by rw [hl,hs];omega) (fun i f hif=>hf i f (by simpa using hif)) (by simpa using hxl);refine ⟨a,by simpa using hK,?_⟩;simp only [Rows.uptoBulk];omega
theorem bears_iso {γ:Type} {f:γ→α} {g:α→γ} (hfg:∀ a,f (g a)=a) (h:Bears P t d m):Bears P t (Kd.iso d f) (fun x=>m (f x)):=by
 intro H enc w base spare held fuel cs x hx;obtain ⟨a,hK,hm⟩:=h H enc w base spare held fuel cs x hx;refine ⟨g a,?_,(by simp only [hfg];exact hm:m (f (g a))≤_)⟩
 show d.K w (f (g a)) cs
 rw [hfg];exact hK
theorem Bears.imp (h:Bears P t d m) {m2:α→Nat} (hm:∀ a,m2 a≤m a):Bears P t d m2:=by
 intro H enc w base spare held fuel cs x hx;obtain ⟨a,hK,hg⟩:=h H enc w base spare held fuel cs x hx;exact ⟨a,hK,Nat.le_trans (hm a) hg⟩
end
section
variable {α β:Type} {m:α→Nat}
theorem len_sum (hm:∀ a,1≤m a):∀ l:List α,l.length≤(l.map m).sum
 |[]=>Nat.le_refl _
 |a::l=>by
  have:=len_sum hm l;have:=hm a;simp only [List.length_cons,List.map_cons,List.sum_cons];omega
theorem mem_sum {l:List α} {a:α} (h:a∈l):m a≤(l.map m).sum:=by
 induction l with
 |nil=>cases h
 |cons b l ih =>
  simp only [List.map_cons,List.sum_cons]
  rcases List.mem_cons.1 h with rfl |h
  ·omega
  ·have:=ih h;omega
theorem flat_sum {g:α→List β} (hg:∀ a,(g a).length≤m a):∀ l:List α,(l.flatMap g).length≤(l.map m).sum
 |[]=>Nat.le_refl _
 |a::l=>by
  have:=flat_sum hg l;have:=hg a;simp only [List.flatMap_cons,List.length_append,List.map_cons,List.sum_cons];omega
end
end Go.Proofs.Ytklknkfoafdgpaa.Bulk
namespace Go.Proofs.Ytklknkfoafdgpaa.LiveTypes
open RowKit WideShapes ChangeShapes ChangeAt
open YtklknkfoafdgpaaW.PrintWords Go.Proofs.Ytklknkfoafdgpaa.Open PLiveKnown LiveCopied LiveRunP
set_option linter.unusedVariables false
set_option linter.unusedSimpArgs false
theorem own:ownKnob Try.prog.godebug=none:=by kernel_rfl
theorem laidOut:laidOutB Try.prog=true:=by kernel_rfl
theorem o2:Opens Try.prog 2 (Kd.int .i64) (fun _=>True):=(opens_int Try.underlying2).imp fun _ _=>trivial
theorem mem_rd78 (l:List S78) (k:Nat) (h:k<l.length):rd_T78 l (k:Int)∈l:=by
 rw [show rd_T78 l (k:Int)=l[k] by simp [rd_T78,List.getD_eq_getElem?_getD,h]];exact List.getElem_mem h
theorem mem_rd47 (l:List S47) (k:Nat) (h:k<l.length):rd_T47 l (k:Int)∈l:=by
 rw [show rd_T47 l (k:Int)=l[k] by simp [rd_T47,List.getD_eq_getElem?_getD,h]];exact List.getElem_mem h
theorem mem_rd43 (l:List S43) (k:Nat) (h:k<l.length):rd_T43 l (k:Int)∈l:=by
 rw [show rd_T43 l (k:Int)=l[k] by simp [rd_T43,List.getD_eq_getElem?_getD,h]];exact List.getElem_mem h
end Go.Proofs.Ytklknkfoafdgpaa.LiveTypes
namespace Go.Proofs.Ytklknkfoafdgpaa.LiveAsked
set_option maxHeartbeats 8000000
set_option maxRecDepth 100000
open RowKit YtklknkfoafdgpaaW.PrintWords YtklknkfoafdgpaaW.PrintLast YtklknkfoafdgpaaW.PrintMore
open PLiveKnown LiveT LiveB LiveSet LiveAhead LiveEnd LiveSettled LiveCopied LiveAft LiveRunP LiveSame LiveFit LiveEvt
set_option linter.unusedVariables false
set_option linter.unusedSimpArgs false
def maskL (S:RS):List Bool:=(List.range 512).map fun (r:Nat)=>S (r:Int)
theorem maskL_length (S:RS):(maskL S).length=512:=by simp [maskL]
theorem maskL_get (S:RS) (r:Nat) (h:r<512):(maskL S)[r]? =some (S (r:Int)):=by simp [maskL,h]
theorem maskL_none:List.replicate 512 false=maskL none':=by
 refine List.ext_getElem? fun i=>?_
 by_cases h:i<512
 ·rw [maskL_get _ i h,List.getElem?_replicate,if_pos h];rfl
 ·rw [List.getElem?_eq_none (by rw [List.length_replicate];omega),List.getElem?_eq_none (by rw [maskL_length];omega)]
theorem inR_nat (r:Nat) (h:r<512):inR (r:Int)=true:=by simp [inR];omega
theorem maskL_set (S:RS) (r:Nat) (h:r<512):(maskL S).set r true=maskL (addR S (r:Int)):=by
 refine List.ext_getElem? fun i=>?_
 by_cases hi:i<512
 ·rw [List.getElem?_set,maskL_get S i hi,maskL_get _ i hi,maskL_length]
  by_cases he:r=i
  ·subst he;rw [if_pos rfl,if_pos h]
   simp [addR,inR_nat r h]
  ·rw [if_neg he];have:((i:Int)==(r:Int))=false:=by simp;omega
   simp [addR,this]
 ·rw [List.getElem?_eq_none (by rw [List.length_set,maskL_length];omega),List.getElem?_eq_none (by rw [maskL_length];omega)]
theorem regsOf_cons (x:S82) (l:List S82):regsOf (x::l)=if x.f0=0 then x.f1::regsOf l else regsOf l:=by
 unfold regsOf
 by_cases h:x.f0=0
 ·rw [if_pos h,List.filter_cons_of_pos (by simp [h]),List.map_cons]
 ·rw [if_neg h,List.filter_cons_of_neg (by simp [h])]
theorem mark_ev (l:List S82) (hl:l.length≤9223372036854775806) (S:RS):Ev (fun k=>zmark.f k (maskL S) l) (maskL (addL S (regsOf l))):=by
 have key:∀ d i:Nat,l.length-i=d→i≤l.length→∀ S:RS,Ev (fun k=>zmark.l0 k (maskL S) l (i:Int)) (maskL (addL S (regsOf (l.drop i)))):=by
  intro d
  induction d with
  |zero =>
   intro i hd hi S;rw [List.drop_eq_nil_of_le (by omega)]
   show Ev _ (maskL S)
   exact Ev.step (fun k=>by simp only [zmark.l0];rw [if_neg (by omega)]) (Ev.now _)
  |succ d ih =>
   intro i hd hi S;have hil:i<l.length:=by omega
   have hy:rd_T82 l (i:Int)=l[i]:=rd82 l i hil;have hw:wrap64 ((i:Int)+1)=((i+1:Nat):Int):=wrap_nat i _ hil (by omega);rw [List.drop_eq_getElem_cons hil,regsOf_cons]
   by_cases h0:l[i].f0=0
   ·rw [if_pos h0]
    show Ev _ (maskL (addL (addR S l[i].f1) (regsOf (l.drop (i+1)))))
    by_cases h1:l[i].f1≥0
    ·by_cases h2:l[i].f1<512
     ·obtain ⟨r,hr⟩:∃ r:Nat,l[i].f1=r:=⟨l[i].f1.toNat,by omega⟩
      refine Ev.step (fun k=>?_) (ih (i+1) (by omega) (by omega) (addR S l[i].f1));simp only [zmark.l0];rw [if_pos (by omega),if_pos (by omega),hy,if_pos h0,if_pos h1,if_pos (by rw [maskL_length];omega),if_pos (by omega),hw,hr,Int.toNat_natCast,maskL_set S r (by omega)]
     ·rw [addR_out S _ (by simp [inR];omega)];refine Ev.step (fun k=>?_) (ih (i+1) (by omega) (by omega) S);simp only [zmark.l0];rw [if_pos (by omega),if_pos (by omega),hy,if_pos h0,if_pos h1,if_neg (by rw [maskL_length];omega),hw]
    ·rw [addR_out S _ (by simp [inR];omega)];refine Ev.step (fun k=>?_) (ih (i+1) (by omega) (by omega) S);simp only [zmark.l0];rw [if_pos (by omega),if_pos (by omega),hy,if_pos h0,if_neg h1,hw]
   ·rw [if_neg h0];refine Ev.step (fun k=>?_) (ih (i+1) (by omega) (by omega) S);simp only [zmark.l0];rw [if_pos (by omega),if_pos (by omega),hy,if_neg h0,hw]
 have h:=key _ 0 rfl (Nat.zero_le _) S;rw [List.drop_zero] at h;exact Ev.congr (fun k=>rfl) h
structure QW (w W:World) (v:Value) (S:RS):Prop where
 below:Below w.heap.size w W
 own:Kd.R Kd.bool 4 W w.heap.size (fun k=>w.heap.size≤k) v (maskL S)
theorem QW.next {w W W1:World} {v:Value} {S:RS} (h:QW w W v S) (hb:Below W.heap.size W W1):QW w W1 v S:=⟨below_step h.below hb,Kd.R_below h.own hb⟩
theorem mark_calls {w W:World} {v:Value} {S:RS} (h:QW w W v S) (A:Option Addr) (c:Nat) (l:List S82) (hC:Kd.C k82 w A l.length l) (hc:l.length≤c) (hl:l.length≤9223372036854775806) :
  Calls Try.prog 64 #[v,.slice A l.length c] W fun e w'=>e= .returned (.tuple #[])∧QW w w' v (addL S (regsOf l)):=by
 obtain ⟨k,hk⟩:=(mark_ev l hl S).rounds;refine (zmark.calls k (fun k=>w.heap.size≤k) v (maskL S) A c l (maskL (addL S (regsOf l))) w W h.below h.own (Kd.C_kept_came k82_heap hC h.below (fun _ hk=>hk)) hc hk).mono ?_;rintro e w' ⟨he,ho,hb,_⟩;exact ⟨he,hb,Kd.R_mono (Kd.R_bound ho) (fun _ hk=>hk.2.1)⟩
def askI (S:RS) (x:S47):RS:=addL (addL S (regsOf x.f3)) (slotsOf x.f7)
def askB (S:RS) (l:List S47):RS:=l.foldl askI S
def askC (bs:List S43):RS:=bs.foldl (fun S B=>askB S B.f1) none'
theorem askB_take (S:RS) (l:List S47) (i:Nat) (hi:i<l.length):askB S (l.take (i+1))=askI (askB S (l.take i)) (rd_T47 l i):=by
 rw [rd47 l i hi,List.take_add_one,List.getElem?_eq_getElem hi];unfold askB;rw [List.foldl_append];rfl
theorem askC_take (bs:List S43) (b:Nat) (hb:b<bs.length):askC (bs.take (b+1))=askB (askC (bs.take b)) (rd_T43 bs b).f1:=by
 rw [rd43 bs b hb,List.take_add_one,List.getElem?_eq_getElem hb];unfold askC;rw [List.foldl_append];rfl
theorem info4:(Try.prog.info? 4).map (fun i=>(i.zero,i.size,i.bytes))=some (some (.bool false),1,1):=by kernel_rfl
theorem asked_calls (fn rg:Int) (Ab:Option Addr) (cb:Nat) (bs:List S43) (w:World) (hC:Kd.C k43 w Ab bs.length bs) (hf:FitC bs) :
  Calls Try.prog 47 #[.agg #[.int .i64 fn,.int .i64 rg,.slice Ab bs.length cb]] w fun e w'=>∃ v,e= .returned v∧Kd.R (Kd.int .i64) 3 w' w.heap.size (fun _=>True) v (regsTo (askC bs) 512)∧Below w.heap.size w w':=by
 have HC:=ak hC;have HFT:=ak hf;have hbm:bs.length≤9223372036854775807:=by have:=hf.blocks;omega
 clear hC hf
 go_enter Try.func47,Try.ntmps47
 go_wp2_with (first
  |((with_reducible refine gate_dst (N:=1) rfl ?_);refine zero_event 24 #[.int .i64 fn,.int .i64 rg,.slice Ab bs.length cb] rfl rfl qb ?_;intro g1 w1 hg1 hA1 hb1;have HG1:=ak hg1;have HA1:=ak hA1;have HB1:=ak hb1;clear hg1 hA1 hb1)
  |((with_reducible refine gate_dst (N:=9) rfl ?_);refine Kd.R_make Kd.bool (w0:=w1) w1.heap.size 4 rfl (N:=9) rfl 53 _ _ rfl 512 rfl rfl Try.underlying53 (.bool false) 1 info4 rfl (by decide) (by omega) false (ok:=fun k=>w1.heap.size≤k) (okp:=fun _=>False) rfl (fun _ hk=>hk.elim) (Nat.le_refl _) (by omega) (by omega) (Below.refl _ _) (Nat.le_refl _) ?_;intro v3 w2 ho hb hg_ hnew_;obtain ⟨A3,c3,hv⟩:=Kd.R_slice ho;rw [show (512:Int).toNat=512 from rfl] at ho hv;rw [maskL_none] at ho hv;rw [maskL_length] at hv;subst hv;have HQ:Aside0 (QW w1 w2 (.slice A3 512 c3) none'):=⟨⟨hb,ho⟩⟩;clear hg_ hnew_ ho hb))
 have HC1:=ak (Kd.C_below HC.out HB1.out);have H0:Aside0 (QW w1 w2 (.slice A3 512 c3) (askC (bs.take 0))):=⟨HQ.out⟩
 clear HQ
 go_loopw [4] (fun v4 wi=>∃ (b:Nat),b≤bs.length∧v4= .int .i64 b∧Aside0 (QW w1 wi (.slice A3 512 c3) (askC (bs.take b)))) (fun v4 _=>bs.length-(intOf v4).toNat)
 case atStart=>exact ⟨0,by omega,rfl,H0⟩
 case round =>
  clear H0;obtain ⟨b,hb,rfl,HQ⟩:=hrel;have c2:=pw_cell_below HQ.out.below (qj HA1 2:w1.cell? ⟨g1,2,none⟩=some (.slice Ab bs.length cb))
  by_cases hlt:b<bs.length
  ·obtain ⟨ad,A1,c1,A2,c2',e,hx0,hx1,hx2,l1,q1,l2,q2⟩:=rd_block HC1.out (Below.refl _ w1) b hlt;subst e;have HX1:=ak hx1;have HI:=ak q1;have HT:=ak (askC_take bs b hlt);have HFI:=ak (HFT.out.each b hlt);have hmx:(rd_T43 bs b).f1.length≤9223372036854775806:=by have:=HFT.out.ins b hlt;omega
   have HBL:=ak hlt;have hbi:(b:Int)<bs.length:=by omega
   generalize askC (bs.take b)=S0 at HQ HT;generalize (rd_T43 bs b).f1=ins at HX1 HI HT HFI hmx;clear hx0 hx1 hx2 l1 q1 l2 q2 hlt
   go_wp2_with fail
   have H0:Aside0 (QW w1 wr (.slice A3 512 c3) (askB S0 (ins.take 0))):=⟨HQ.out⟩
   clear c2 HQ
   go_loopw [5] (fun v5 wi=>∃ (i:Nat),i≤ins.length∧v5= .int .i64 i∧Aside0 (QW w1 wi (.slice A3 512 c3) (askB S0 (ins.take i)))) (fun v5 _=>ins.length-(intOf v5).toNat)
   case atStart=>exact ⟨0,by omega,rfl,H0⟩
   case round =>
    clear H0;obtain ⟨i,hi,rfl,HQ⟩:=hrel;have c2:=pw_cell_below HQ.out.below (qj HA1 2:w1.cell? ⟨g1,2,none⟩=some (.slice (some ad) bs.length cb));have hx1:=pw_cell_below HQ.out.below HX1.out
    by_cases hlt:i<ins.length
    ·obtain ⟨ai,B3,d3,B7,d7,e,hin,hrin⟩:=rd_ins HI.out i hlt;subst e;obtain ⟨q0,q1,q2,q3,q4,q5,q6,q7⟩:=hin.below HQ.out.below;have HQ7:Aside0 (∀ W,Below w1.heap.size w1 W→W.cell? ⟨(ai.add (i*8)).block,(ai.add (i*8)).off+7,none⟩=some (.slice B7 (rd_T47 ins i).f7.length d7)):=⟨fun W hW=>by obtain ⟨_,_,_,_,_,_,_,h7⟩:=hin.below hW;exact h7⟩
     have HT2:=ak (askB_take S0 ins i hlt);have hfx:=HFI.out i hlt;have HLT:=ak hlt;have hii:(i:Int)<ins.length:=by omega
     have HRI:=ak hrin;have HFX:=ak hfx;have hm7:(rd_T47 ins i).f7.length≤9223372036854775806:=by have:=hfx.exits;omega
     generalize askB S0 (ins.take i)=S1 at HQ HT2;generalize rd_T47 ins i=x at q0 q1 q2 q3 q4 q5 q6 q7 HQ7 HT2 HRI HFX hm7;clear q0 q1 q2 q4 q5 q6 q7 hin hrin hfx hlt
     go_wp2_with (go_at_call 64;refine (mark_calls HQ.out B3 d3 x.f3 HRI.out.r3 HRI.out.l3 (by have:=HFX.out.args;omega)).mono ?_;rintro e w5 ⟨rfl,hq⟩;have HQ5:=ak hq;clear hq)
     have H0:Aside0 (QW w1 w5 (.slice A3 512 c3) (addL (addL S1 (regsOf x.f3)) (slotsOf (x.f7.take 0)))):=⟨HQ5.out⟩
     clear c2 hx1 q3 HQ HQ5
     go_loopw [6] (fun v6 wi=>∃ (k:Nat),k≤x.f7.length∧v6= .int .i64 k∧Aside0 (QW w1 wi (.slice A3 512 c3) (addL (addL S1 (regsOf x.f3)) (slotsOf (x.f7.take k))))) (fun v6 _=>x.f7.length-(intOf v6).toNat)
     case atStart=>exact ⟨0,by omega,rfl,H0⟩
     case round =>
      clear H0;obtain ⟨k,hk,rfl,HQ⟩:=hrel;have c2:=pw_cell_below HQ.out.below (qj HA1 2:w1.cell? ⟨g1,2,none⟩=some (.slice (some ad) bs.length cb));have hx1:=pw_cell_below HQ.out.below HX1.out;have q7:=HQ7.out _ HQ.out.below
      by_cases hlt:k<x.f7.length
      ·obtain ⟨asx,D2,e2,e,hs0,hs1,hs2,hsl,hsC⟩:=at_T78 HRI.out.r7 (k:Int) (by omega) (by omega);subst e;simp only [Int.toNat_natCast] at hs0 hs1 hs2;replace hs2:=pw_cell_below HQ.out.below hs2;have HSM:=ak hsl;have HSL:=ak (HFX.out.slots k hlt);have HST:=ak (slots_take x.f7 k hlt);have HSC:=ak hsC;have HLK:=ak hlt;have hki:(k:Int)<x.f7.length:=by omega
       generalize rd_T78 x.f7 k=p at hs0 hs1 hs2 HSL HST HSC HSM;clear hsC hlt hs0 hs1 hsl
       go_wp2_with (go_at_call 64;refine (mark_calls HQ.out D2 e2 p.f2 HSC.out HSM.out (by have:=HSL.out;omega)).mono ?_;rintro e w6 ⟨rfl,hq⟩;have HQ6:=ak hq;clear hq)
       have hlt:=HLK.out
       go_roundw
       case rel=>exact ⟨k+1,by omega,by go_num,⟨by rw [HST.out,addL_append];exact HQ6.out⟩⟩
       case measure=>simp [intOf];omega
      ·obtain rfl:k=x.f7.length:=by omega
       rw [List.take_length] at HQ;have hlt:=HLT.out
       go_wp2_with fail
       go_roundw
       case rel=>exact ⟨i+1,by omega,by go_num,⟨by rw [HT2.out];exact HQ.out⟩⟩
       case measure=>simp [intOf];omega
    ·obtain rfl:i=ins.length:=by omega
     rw [List.take_length] at HQ;have hlt:=HBL.out
     go_wp2_with fail
     go_roundw
     case rel=>exact ⟨b+1,by omega,by go_num,⟨by rw [HT.out];exact HQ.out⟩⟩
     case measure=>simp [intOf];omega
  ·obtain rfl:b=bs.length:=by omega
   rw [List.take_length] at HQ
   go_wp2_with fail
   have HX:=ak HQ.out.below;have HM:=ak (Kd.R_reads' HQ.out.own).2.2;rw [maskL_length] at HM;clear c2 HQ hlt hb;generalize wr=wo at *;have H0:=ak (Below.refl wo.heap.size wo);have HR0:Aside0 (Kd.R (Kd.int .i64) 3 wo wo.heap.size (fun _=>True) (.slice none 0 0) (regsTo (askC bs) 0)):=⟨Kd.R_nil _ _ _ _ _⟩
   generalize hS:askC bs=S at *;have HS:=ak hS;clear hS
   go_loopw [7,8] (fun v7 v8 wi=>∃ (k:Nat),k≤512∧v8= .int .i64 k∧Aside0 (Below wo.heap.size wo wi)∧Aside0 (Kd.R (Kd.int .i64) 3 wi wo.heap.size (fun _=>True) v7 (regsTo S k))) (fun _ v8 _=>512-(intOf v8).toNat)
   case atStart=>exact ⟨0,by omega,rfl,H0,HR0⟩
   case round =>
    clear H0 HR0;obtain ⟨k,hk,rfl,HB,HR⟩:=hrel
    by_cases hlt:k<512
    ·obtain ⟨am,e,hm⟩:=Kd.at_bool HM.out (k:Int) (by omega) (by omega);subst e;have hrd:rdOf false (maskL S) (k:Int)=S (k:Int):=by
      show (maskL S).getD (k:Int).toNat false=S (k:Int)
      rw [Int.toNat_natCast,List.getD_eq_getElem?_getD,maskL_get S k hlt];rfl
     rw [hrd] at hm;simp only [Int.toNat_natCast] at hm;replace hm:=pw_cell_below HB.out hm;have HSU:=ak (regsTo_succ S k);have hlen:=ak (regsTo_length S k);obtain ⟨t,ht⟩:∃ t,S (k:Int)=t:=⟨_,rfl⟩
     rw [ht] at hm;have HT:=ak ht;clear ht hrd;cases t
     ·go_wp2_with fail
      go_roundw
      case rel=>exact ⟨k+1,by omega,by go_num,HB,⟨by rw [HSU.out,if_neg (by rw [HT.out];decide),List.append_nil];exact HR.out⟩⟩
      case measure=>simp [intOf];omega
     ·go_wp2_with (at_builtin;refine Kd.R_append (Kd.int .i64) (w0:=wo) wo.heap.size rfl (.tmp 81) (.tmp 83) 25 3 (.int .i64 0) 8 rfl Try.underlying25 infoI rfl (by decide) (by omega) _ (regsTo S k) (k:Int) [.int .i64 k] (fun _=>True) (fun _=>False) rfl rfl rfl (fun _ hk=>hk.elim) (fun _ _=>trivial) HR.out HB.out HB.out.size (by have:=hlen.out;omega) ?_;intro v9 w9 ho hb hg hat;have HR9:=ak ho;have HB9:=ak hb;clear ho hb hg hat)
      go_roundw
      case rel=>exact ⟨k+1,by omega,by go_num,HB9,⟨by rw [HSU.out,if_pos HT.out];exact HR9.out⟩⟩
      case measure=>simp [intOf];omega
    ·obtain rfl:k=512:=by omega
     go_wp2_with fail
     go_ret
     rw [HS.out];exact ⟨_,rfl,Kd.R_lower HR.out (Nat.le_trans HB1.out.size HX.out.size),below_step HB1.out (below_step HX.out HB.out)⟩
end Go.Proofs.Ytklknkfoafdgpaa.LiveAsked
