import Derived.Test.YtklknkfoafdgpaaLiveFit
import Derived.Test.YtklknkfoafdgpaaPLiveKnownx17
import Derived.Test.YtklknkfoafdgpaaLiveB
namespace Go.Proofs.Ytklknkfoafdgpaa.LiveTaken
open RowKit YtklknkfoafdgpaaW.PrintWords YtklknkfoafdgpaaW.PrintLast YtklknkfoafdgpaaW.PrintMore
open PLiveKnown LiveT LiveSet LiveAhead LiveEnd LiveSettled LiveCopied LiveRunP LiveSame LiveFit
set_option linter.unusedVariables false
set_option linter.unusedSimpArgs false
theorem strip_app (p s:List S47) (E:RS):strip iOf (p++s) E=strip iOf p (back (s.map iOf) E)++strip iOf s E:=by
 induction p with
 |nil=>rfl
 |cons x p ih =>
  simp only [List.cons_append,strip,List.map_append,back_append]
  split
  ·exact ih
  ·rw [ih];rfl
theorem outs_app (p s:List S47) (E:RS):outs iOf (p++s) E=outs iOf p (back (s.map iOf) E)++outs iOf s E:=by
 induction p with
 |nil=>rfl
 |cons x p ih=>simp only [List.cons_append,outs,List.map_append,back_append,ih]
theorem last_kept (p:List S47) (S:RS) (q:List S47) (y:S47) (h:strip iOf p S=q++[y]):idle (iOf y) S=false:=by
 obtain ⟨n,hn⟩:∃ n,p.length=n:=⟨_,rfl⟩
 induction n generalizing p with
 |zero =>
  rw [List.length_eq_zero_iff] at hn;subst hn
  simp [strip] at h
 |succ n ih =>
  have hne:p≠[]:=fun he=>by rw [he] at hn;simp at hn
  rw [←List.dropLast_concat_getLast hne,strip_app] at h;have hl:p.dropLast.length=n:=by rw [List.length_dropLast,hn];rfl
  by_cases hi:idle (iOf (p.getLast hne)) S=true
  ·have h1:strip iOf [p.getLast hne] S=[]:=by simp only [strip,List.map_nil,back,hi,if_true]
   have h2:back ([p.getLast hne].map iOf) S=S:=by simp only [List.map_cons,List.map_nil,back,LiveT.ahead,hi,if_true]
   rw [h1,h2,List.append_nil] at h;exact ih _ h hl
  ·have h1:strip iOf [p.getLast hne] S=[p.getLast hne]:=by simp only [strip,List.map_nil,back,if_neg hi]
   rw [h1] at h;have:=List.append_inj_right' h rfl;rw [←(List.cons.inj this).1]
   simpa using hi
theorem taken_l0 (l:List S47) (E:RS) (hl:l.length≤9223372036854775807) (hf:∀ i,i<l.length→Fit47 (rd_T47 l (i:Nat))) (a0:Int) (l2:List Int) (d0:Int) (d2:List Int):∀ i:Nat,i≤l.length→∀ out:List Bool,out.length=l.length→out.take i=List.replicate i false →
  Ev (fun k=>ztaken.l0 k out (((strip iOf (l.take i) (back ((l.drop i).map iOf) E)).length:Int)-1) ((i:Int)-1) a0 l l2 d0 (strip iOf l E) d2) (outs iOf (l.take i) (back ((l.drop i).map iOf) E)++out.drop i,true):=by
 intro i
 induction i with
 |zero =>
  intro hi out ho hr;refine Ev.step (fun k=>by simp only [ztaken.l0];rw [if_neg (by omega)]) ?_;simp only [List.take_zero,strip,outs,List.length_nil,List.drop_zero,List.nil_append];exact Ev.now _
 |succ i ih =>
  intro hi out ho hr;have h1:i<l.length:=by omega
  have hx:rd_T47 l (i:Int)=l[i]:=rd47 l i h1;have hfx:=hf i h1;have htake:l.take (i+1)=l.take i++[l[i]]:=by rw [List.take_add_one,List.getElem?_eq_getElem h1];rfl
  have hdrop:l.drop i=l[i]::l.drop (i+1):=List.drop_eq_getElem_cons h1;have hlen:l.length=(strip iOf l E).length+0∨True:= .inr trivial;have hle:(strip iOf l E).length≤l.length:=strip_length l E;have hS:back ((l.drop i).map iOf) E=LiveT.ahead (iOf l[i]) (back ((l.drop (i+1)).map iOf) E):=by rw [hdrop];rfl
  have hm:strip iOf l E=strip iOf (l.take (i+1)) (back ((l.drop (i+1)).map iOf) E)++strip iOf (l.drop (i+1)) E:=by rw [←strip_app,List.take_append_drop]
  generalize hSd:back ((l.drop (i+1)).map iOf) E=S at hS hm ⊢;have h8:(((i+1:Nat):Int)-1)=(i:Int):=by omega
  rw [h8];have hw8:wrap64 ((i:Int)-1)=(i:Int)-1:=by unfold wrap64;omega
  have hor:out.take i=List.replicate i false:=by
   have:=congrArg (List.take i) hr;rw [List.take_take,List.take_replicate] at this
   simpa using this
  by_cases hid:idle (iOf l[i]) S=true
  ·have hb:back ([l[i]].map iOf) S=S:=by simp only [List.map_cons,List.map_nil,back,LiveT.ahead,hid,if_true]
   have hs1:strip iOf (l.take (i+1)) S=strip iOf (l.take i) S:=by
    rw [htake,strip_app,hb];simp only [strip,List.map_nil,back,hid,if_true,List.append_nil]
   have ho1:outs iOf (l.take (i+1)) S=outs iOf (l.take i) S++[true]:=by
    rw [htake,outs_app,hb];simp only [outs,List.map_nil,back,hid]
   have hSi:back ((l.drop i).map iOf) E=S:=by rw [hS];simp only [LiveT.ahead,hid,if_true]
   have hq:q47 l[i]=true:=by
    simp only [idle,Bool.and_eq_true] at hid;exact hid.1
   have hset:(out.set i true).drop i=true::out.drop (i+1):=by
    rw [List.drop_eq_getElem_cons (by rw [List.length_set];omega)]
    simp [List.drop_set]
   have hres:outs iOf (l.take (i+1)) S++out.drop (i+1)=outs iOf (l.take i) S++(out.set i true).drop i:=by
    rw [ho1,hset,List.append_assoc];rfl
   have hgo:=ih (by omega) (out.set i true) (by rw [List.length_set];exact ho) (by rw [←hor];exact List.take_set_of_le (Nat.le_refl i));rw [hSi] at hgo;rw [hres,hs1];have hj:Ev (fun k=>ztaken.j2 k out (((strip iOf (l.take i) S).length:Int)-1) (i:Int) false a0 l l2 d0 (strip iOf l E) d2) (outs iOf (l.take i) S++(out.set i true).drop i,true):=by
    have hquiet:zquiet.f (l[i]).f0 (l[i]).f1 (l[i]).f2 (l[i]).f3 (l[i]).f4 (l[i]).f5 (l[i]).f6 (l[i]).f7=some true:=by
     unfold zquiet.f
     by_cases h0:(l[i]).f0=1
     ·rw [if_pos h0]
     ·rw [if_neg h0];simp only [q47,Bool.or_eq_true,beq_iff_eq] at hq
      simpa using hq.resolve_left h0
    refine Ev.step (fun k=>?_) hgo;simp only [ztaken.j2];rw [if_neg (by decide),if_pos (by omega),if_pos (by omega),hx,hquiet];simp only [Option.bind_some];rw [if_pos (by trivial),if_pos (by rw [ho];omega),hw8,Int.toNat_natCast]
   by_cases h7:(strip iOf (l.take i) S).length=0
   ·exact Ev.step (fun k=>by simp only [ztaken.l0];rw [if_pos (by omega),if_neg (by omega)]) hj
   ·have hne:strip iOf (l.take i) S≠[]:=fun he=>h7 (by rw [he];rfl)
    have hcat:=(List.dropLast_concat_getLast hne).symm;have hlast:=last_kept _ _ _ _ hcat;have hneq:(strip iOf (l.take i) S).getLast hne≠l[i]:=fun he=>by rw [he,hid] at hlast;exact absurd hlast (by decide)
    have hlt:(strip iOf (l.take i) S).length-1<(strip iOf l E).length:=by
     rw [hm,hs1,List.length_append];omega
    have hrd:rd_T47 (strip iOf l E) (((strip iOf (l.take i) S).length:Int)-1)=(strip iOf (l.take i) S).getLast hne:=by
     have:(((strip iOf (l.take i) S).length:Int)-1)=(((strip iOf (l.take i) S).length-1:Nat):Int):=by omega
     rw [this,rd47 _ _ hlt];simp only [hm,hs1];rw [List.getElem_append_left (by omega),List.getLast_eq_getElem]
    obtain ⟨t,ht,hiff⟩:=ins_ev l[i] ((strip iOf (l.take i) S).getLast hne) (by rw [←hx];exact hfx);have ht0:t=false:=by
     cases t with
     |false=>rfl
     |true=>exact absurd (hiff.mp rfl).symm hneq
    subst ht0
    have hst:∀ k,ztaken.l0 (k+1) out (((strip iOf (l.take i) S).length:Int)-1) (i:Int) a0 l l2 d0 (strip iOf l E) d2=((fun k=>zSameIns.f k (l[i]).f0 (l[i]).f1 (l[i]).f2 (l[i]).f3 (l[i]).f4 (l[i]).f5 (l[i]).f6 (l[i]).f7 ((strip iOf (l.take i) S).getLast hne).f0 ((strip iOf (l.take i) S).getLast hne).f1 ((strip iOf (l.take i) S).getLast hne).f2 ((strip iOf (l.take i) S).getLast hne).f3 ((strip iOf (l.take i) S).getLast hne).f4 ((strip iOf (l.take i) S).getLast hne).f5 ((strip iOf (l.take i) S).getLast hne).f6 ((strip iOf (l.take i) S).getLast hne).f7) k).bind fun t=>ztaken.j2 k out (((strip iOf (l.take i) S).length:Int)-1) (i:Int) t a0 l l2 d0 (strip iOf l E) d2:=fun k=>by
     simp only [ztaken.l0];rw [if_pos (by omega),if_pos (by omega),if_pos (by omega),if_pos (by omega),if_pos (by omega),if_pos (by omega),hx,hrd]
    exact Ev.step hst (Ev.bind ht hj)
  ·have hs1:strip iOf (l.take (i+1)) S=strip iOf (l.take i) (back ((l.drop i).map iOf) E)++[l[i]]:=by
    rw [htake,strip_app,hS];simp only [strip,List.map_nil,List.map_cons,back,if_neg hid]
   have ho1:outs iOf (l.take (i+1)) S=outs iOf (l.take i) (back ((l.drop i).map iOf) E)++[false]:=by
    rw [htake,outs_app,hS];simp only [outs,List.map_nil,List.map_cons,back];rw [show idle (iOf l[i]) S=false by simpa using hid]
   have hgo:=ih (by omega) out ho hor;generalize hSi:back ((l.drop i).map iOf) E=Si at hs1 ho1 hgo;have hi2:i<out.length:=by omega
   have hof:out[i]'hi2=false:=by
    have:=congrArg (fun z=>z[i]?) hr;simp only [List.getElem?_take,List.getElem?_replicate] at this;rw [if_pos (by omega),if_pos (by omega),List.getElem?_eq_getElem hi2] at this;exact Option.some.inj this
   have hdr:out.drop i=false::out.drop (i+1):=by rw [List.drop_eq_getElem_cons hi2,hof]
   have hres:outs iOf (l.take (i+1)) S++out.drop (i+1)=outs iOf (l.take i) Si++out.drop i:=by
    rw [ho1,hdr,List.append_assoc];rfl
   rw [hres,hs1];have h7:(((strip iOf (l.take i) Si++[l[i]]).length:Int)-1)=((strip iOf (l.take i) Si).length:Int):=by
    rw [List.length_append,List.length_singleton];omega
   rw [h7];have hlt:(strip iOf (l.take i) Si).length<(strip iOf l E).length:=by
    rw [hm,hs1,List.length_append,List.length_append,List.length_singleton];omega
   have hrd:rd_T47 (strip iOf l E) ((strip iOf (l.take i) Si).length:Int)=l[i]:=by
    rw [rd47 _ _ hlt];simp only [hm,hs1];rw [List.getElem_append_left (by rw [List.length_append,List.length_singleton];omega),List.getElem_append_right (Nat.le_refl _)]
    simp
   have hself:=ins_self l[i] (by rw [←hx];exact hfx);have hw7:wrap64 (((strip iOf (l.take i) Si).length:Int)-1)=((strip iOf (l.take i) Si).length:Int)-1:=by unfold wrap64;omega
   have hj:Ev (fun k=>ztaken.j2 k out ((strip iOf (l.take i) Si).length:Int) (i:Int) true a0 l l2 d0 (strip iOf l E) d2) (outs iOf (l.take i) Si++out.drop i,true):=by
    refine Ev.step (fun k=>?_) hgo;simp only [ztaken.j2];rw [if_pos trivial,hw7,hw8]
   have hst:∀ k,ztaken.l0 (k+1) out ((strip iOf (l.take i) Si).length:Int) (i:Int) a0 l l2 d0 (strip iOf l E) d2=((fun k=>zSameIns.f k (l[i]).f0 (l[i]).f1 (l[i]).f2 (l[i]).f3 (l[i]).f4 (l[i]).f5 (l[i]).f6 (l[i]).f7 (l[i]).f0 (l[i]).f1 (l[i]).f2 (l[i]).f3 (l[i]).f4 (l[i]).f5 (l[i]).f6 (l[i]).f7) k).bind fun t=>ztaken.j2 k out ((strip iOf (l.take i) Si).length:Int) (i:Int) t a0 l l2 d0 (strip iOf l E) d2:=fun k=>by
    simp only [ztaken.l0];rw [if_pos (by omega),if_pos (by omega),if_pos (by omega),if_pos (by omega),if_pos (by omega),if_pos (by omega),hx,hrd]
   exact Ev.step hst (Ev.bind hself hj)
theorem taken_ev (n:Nat) (V:Nat→RS) (b:S43) (hl:b.f1.length≤281474976710656) (h2:b.f2.length≤9223372036854775807) (hf:∀ i,i<b.f1.length→Fit47 (rd_T47 b.f1 (i:Nat))) :
  ∃ k,ztaken.f k b.f0 b.f1 b.f2 (runB n V b).f0 (runB n V b).f1 (runB n V b).f2=some (outs iOf b.f1 (endd n V b.f2),true):=by
 have h:=taken_l0 b.f1 (endd n V b.f2) (by omega) hf b.f0 b.f2 b.f0 b.f2 b.f1.length (Nat.le_refl _) (List.replicate b.f1.length false) (by simp) (by simp);simp only [List.take_length,List.drop_length,List.map_nil,back] at h;rw [show List.drop b.f1.length (List.replicate b.f1.length false)=[] by simp,List.append_nil] at h;have hle:=strip_length b.f1 (endd n V b.f2);have hw1:wrap64 (((strip iOf b.f1 (endd n V b.f2)).length:Int)-1)=((strip iOf b.f1 (endd n V b.f2)).length:Int)-1:=by unfold wrap64;omega
 have hw2:wrap64 ((b.f1.length:Int)-1)=(b.f1.length:Int)-1:=by unfold wrap64;omega
 have hev:Ev (fun k=>ztaken.f k b.f0 b.f1 b.f2 (runB n V b).f0 (runB n V b).f1 (runB n V b).f2) (outs iOf b.f1 (endd n V b.f2),true):=by
  have hj:Ev (fun k=>ztaken.j0 k (List.replicate b.f1.length false) false b.f0 b.f1 b.f2 b.f0 (strip iOf b.f1 (endd n V b.f2)) b.f2) (outs iOf b.f1 (endd n V b.f2),true):=
   Ev.step (fun k=>by simp only [ztaken.j0];rw [if_neg (by decide),hw1,hw2]) h
  have hst:∀ k,ztaken.f k b.f0 b.f1 b.f2 (runB n V b).f0 (runB n V b).f1 (runB n V b).f2=((fun k=>zSameInts.f k b.f2 b.f2) k).bind fun t=>ztaken.j0 k (List.replicate b.f1.length false) (!t) b.f0 b.f1 b.f2 b.f0 (strip iOf b.f1 (endd n V b.f2)) b.f2:=fun k=>by
   unfold ztaken.f;rw [if_pos (by omega),if_pos (by omega)];simp only [Option.bind_some,runB,if_true,Int.toNat_natCast]
  exact Ev.congr hst (Ev.bind (ints_self b.f2 h2) hj)
 exact hev.rounds
end Go.Proofs.Ytklknkfoafdgpaa.LiveTaken
namespace Go.Proofs.Ytklknkfoafdgpaa.LiveM
open LiveT
set_option linter.unusedVariables false
set_option linter.unusedSimpArgs false
def al:List I→List Bool→Int→Int
 |x::l,o::os,r=>if o=true then al l os r else if x.a r=true then 1 else if x.d=r then 2 else al l os r
 |_,_,_=>0
section
variable {α:Type} (f:α→I)
theorem outs_map (l:List α) (S:RS):outs id (l.map f) S=outs f l S:=by
 induction l with
 |nil=>rfl
 |cons x l ih=>simp only [List.map_cons,outs,ih,id,List.map_id]
end
theorem back_al (l:List I) (S:RS) (r:Int) (hr:inR r=true):back l S r=true↔al l (outs id l S) r=1∨al l (outs id l S) r=0∧S r=true:=by
 induction l with
 |nil=>simp [al,back]
 |cons x l ih =>
  simp only [outs,List.map_id,id_eq,back,al]
  by_cases hi:idle x (back l S)=true
  ·rw [ahead_idle hi,if_pos hi];exact ih
  ·rw [if_neg hi];simp only [LiveT.ahead,if_neg hi,hr,Bool.true_and,Bool.or_eq_true,Bool.and_eq_true,bne_iff_ne]
   by_cases ha:x.a r=true
   ·simp [ha]
   ·rw [if_neg ha]
    by_cases hd:x.d=r
    ·rw [if_pos hd]
     simp [ha,hd]
    ·rw [if_neg hd,←ih];simp only [ha,Bool.false_eq_true,or_false];exact ⟨fun h=>h.1,fun h=>⟨h,fun he=>hd he.symm⟩⟩
theorem back_al_le (l:List I) {S T:RS} (h:Le T S) (r:Int) (hr:back l T r=true) (hin:inR r=true):al l (outs id l S) r=1∨al l (outs id l S) r=0∧T r=true:=by
 induction l with
 |nil=>exact .inr ⟨by simp [al],hr⟩
 |cons x l ih =>
  simp only [outs,List.map_id,id_eq,al];simp only [back] at hr
  by_cases hi:idle x (back l S)=true
  ·rw [if_pos hi];rw [ahead_idle (idle_mono (back_mono _ h) hi)] at hr;exact ih hr
  ·rw [if_neg hi]
   by_cases ha:x.a r=true
   ·rw [if_pos ha];exact .inl rfl
   rw [if_neg ha];simp only [LiveT.ahead] at hr
   by_cases hi2:idle x (back l T)=true
   ·rw [if_pos hi2] at hr;have hd:¬ x.d=r:=by
     intro he;simp only [idle,Bool.and_eq_true,Bool.not_eq_true'] at hi2;rw [he,hr] at hi2;exact absurd hi2.2 (by decide)
    rw [if_neg hd];exact ih hr
   ·rw [if_neg hi2] at hr;simp only [Bool.or_eq_true,Bool.and_eq_true,bne_iff_ne] at hr
    rcases hr with hr |hr
    ·rw [if_neg (fun he=>hr.2 he.symm)];exact ih hr.1
    ·exact absurd hr.2 ha
inductive Way (c:List Blk) (o:Nat→List Bool) (r:Int):Nat→Prop
 |here (n:Nat) (B:Blk) (h:c[n]? =some B) (h1:al B.1 (o n) r=1):Way c o r n
 |step (n:Nat) (B:Blk) (h:c[n]? =some B) (h0:al B.1 (o n) r=0) (m:Nat) (hm:(m:Int)∈B.2) (hlt:m<c.length) (hw:Way c o r m):Way c o r n
def outsOf (c:List Blk) (W:Nat→RS) (n:Nat):List Bool:=match c[n]? with |some B=>outs id B.1 (endd c.length W B.2) |none=>[]
theorem way_wanted {c:List Blk} {W:Nat→RS} (h:Lfp c W) (r:Int) (hr:inR r=true) (n:Nat) (hn:n<c.length):W n r=true↔Way c (outsOf c W) r n:=by
 classical
 constructor
 ·intro hw;have:=h.least (fun b r'=>W b r'&&decide (r'=r→Way c (outsOf c W) r b)) (fun b B hB r' hr'=>by
   have hle:Le (endd c.length (fun b r'=>W b r'&&decide (r'=r→Way c (outsOf c W) r b)) B.2) (endd c.length W B.2):=endd_mono _ (fun n _ r hr=>by simp only [Bool.and_eq_true] at hr;exact hr.1);have h1:W b r'=true:=by rw [h.fix b B hB];exact back_mono _ hle r' hr'
   simp only [h1,Bool.true_and,decide_eq_true_eq];rintro rfl;have ho:outsOf c W b=outs id B.1 (endd c.length W B.2):=by simp only [outsOf,hB]
   rcases back_al_le B.1 hle r' hr' hr with h2 |⟨h2,h3⟩
   ·exact .here b B hB (by rw [ho];exact h2)
   ·obtain ⟨m,hm,hlt,hP⟩:=endd_true.mp h3;simp only [Bool.and_eq_true,decide_eq_true_eq] at hP;exact .step b B hB (by rw [ho];exact h2) m hm hlt (hP.2 trivial)) n hn r hw
  simp only [Bool.and_eq_true,decide_eq_true_eq] at this;exact this.2 trivial
 ·intro hw
  induction hw with
  |here n B hB h1 =>
   rw [h.fix n B hB];have ho:outsOf c W n=outs id B.1 (endd c.length W B.2):=by simp only [outsOf,hB]
   exact (back_al _ _ r hr).mpr (.inl (by rw [←ho];exact h1))
  |step n B hB h0 m hm hlt hw ih =>
   rw [h.fix n B hB];have ho:outsOf c W n=outs id B.1 (endd c.length W B.2):=by simp only [outsOf,hB]
   exact (back_al _ _ r hr).mpr (.inr ⟨by rw [←ho];exact h0,endd_true.mpr ⟨m,hm,hlt,ih hlt⟩⟩)
def Met (c:List Blk) (o:Nat→List Bool) (b i:Nat) (r:Int):Prop:=∃ B,c[b]? =some B∧(al (B.1.drop i) ((o b).drop i) r=1∨al (B.1.drop i) ((o b).drop i) r=0∧∃ m:Nat,(m:Int)∈B.2∧m<c.length∧Way c o r m)
theorem outs_drop (l:List I) (S:RS) (i:Nat):(outs id l S).drop i=outs id (l.drop i) S:=by
 induction l generalizing i with
 |nil=>simp [outs]
 |cons x l ih =>
  cases i with
  |zero=>rfl
  |succ i=>simp only [outs,List.drop_succ_cons,ih]
theorem met_wanted {c:List Blk} {W:Nat→RS} (h:Lfp c W) (r:Int) (hr:inR r=true) (b i:Nat) (B:Blk) (hB:c[b]? =some B):Met c (outsOf c W) b i r↔back (B.1.drop i) (endd c.length W B.2) r=true:=by
 have ho:outsOf c W b=outs id B.1 (endd c.length W B.2):=by simp only [outsOf,hB]
 rw [back_al _ _ r hr];constructor
 ·rintro ⟨B',hB',hh⟩;rw [hB] at hB';cases hB';rw [ho,outs_drop] at hh
  rcases hh with hh |⟨h0,m,hm,hlt,hw⟩
  ·exact .inl hh
  ·exact .inr ⟨h0,endd_true.mpr ⟨m,hm,hlt,(way_wanted h r hr m hlt).mpr hw⟩⟩
 ·intro hh;refine ⟨B,hB,?_⟩;rw [ho,outs_drop]
  rcases hh with hh |⟨h0,h1⟩
  ·exact .inl hh
  ·obtain ⟨m,hm,hlt,hw⟩:=endd_true.mp h1;exact .inr ⟨h0,m,hm,hlt,(way_wanted h r hr m hlt).mp hw⟩
theorem way_closed {c:List Blk} {o:Nat→List Bool} {r:Int} (V:Nat→Prop) (h1:∀ n B,V n→c[n]? =some B→al B.1 (o n) r≠1) (h2:∀ n B,V n→c[n]? =some B→al B.1 (o n) r=0→∀ m:Nat,(m:Int)∈B.2→m<c.length→V m) {n:Nat} (hn:V n):¬ Way c o r n:=by
 intro hw
 induction hw with
 |here n B hB h=>exact h1 n B hn hB h
 |step n B hB h0 m hm hlt hw ih=>exact ih (h2 n B hn hB h0 m hm hlt)
end Go.Proofs.Ytklknkfoafdgpaa.LiveM
