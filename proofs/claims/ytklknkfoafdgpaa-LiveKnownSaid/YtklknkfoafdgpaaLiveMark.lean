import Derived.Test.YtklknkfoafdgpaaLiveAsked
import Derived.Test.YtklknkfoafdgpaaLiveHandC
namespace Go.Proofs.Ytklknkfoafdgpaa.LiveBulk
open RowKit WideShapes ChangeShapes ChangeAt
open YtklknkfoafdgpaaW.PrintWords Bulk PLiveKnown LiveCopied LiveRunP LiveTypes LiveHandS LiveHandB LiveHandC
set_option linter.unusedVariables false
set_option linter.unusedSimpArgs false
def n78 (x:S78):Nat:=x.f2.length+1
def n47 (x:S47):Nat:=x.f3.length+(x.f7.map n78).sum+1
def n43 (x:S43):Nat:=(x.f1.map n47).sum+x.f2.length+1
def nC (l:List S43):Nat:=(l.map n43).sum
theorem b3:Bears Try.prog 3 (Kd.int .i64) (fun _=>1):=bears_int Try.underlying3
theorem b2:Bears Try.prog 2 (Kd.int .i64) (fun _=>1):=bears_int Try.underlying2
theorem sum_ones {α:Type} (l:List α):l.length≤(l.map fun _=>1).sum:=len_sum (fun _=>Nat.le_refl _) l
theorem b25:Bears Try.prog 25 (Kd.slice 3 (Kd.int .i64)) (fun l=>l.length):=(bears_slice Try.underlying25 b3 (by kernel_rfl)).imp fun l=>by have:=sum_ones l;omega
theorem b82:Bears Try.prog 82 k82 (fun _=>1):=
 (bears_iso (g:=fun p=>⟨p.1,p.2⟩) (fun _=>rfl) (bears_struct Try.underlying82 (bearsF_cons b3 rfl (by kernel_rfl) (bearsF_one b2 rfl (by kernel_rfl))) (by kernel_rfl))).imp fun _=>by omega
theorem b44:Bears Try.prog 44 (Kd.slice 82 k82) (fun l=>l.length):=(bears_slice Try.underlying44 b82 (by kernel_rfl)).imp fun l=>by have:=sum_ones l;omega
theorem b78:Bears Try.prog 78 k78 n78:=
 (bears_iso (g:=fun p=>⟨p.1,p.2.1,p.2.2⟩) (fun _=>rfl) (bears_struct Try.underlying78 (bearsF_cons b3 rfl (by kernel_rfl) (bearsF_cons b3 rfl (by kernel_rfl) (bearsF_one b44 rfl (by kernel_rfl)))) (by kernel_rfl))).imp fun x=>by unfold n78;simp only;omega
theorem b45:Bears Try.prog 45 (Kd.slice 78 k78) (fun l=>(l.map n78).sum):=(bears_slice Try.underlying45 b78 (by kernel_rfl)).imp fun l=>by omega
theorem b47:Bears Try.prog 47 k47 n47:=
 (bears_iso (g:=fun p=>⟨p.1,p.2.1,p.2.2.1,p.2.2.2.1,p.2.2.2.2.1,p.2.2.2.2.2.1,p.2.2.2.2.2.2.1,p.2.2.2.2.2.2.2⟩) (fun _=>rfl) (bears_struct Try.underlying47 (bearsF_cons b3 rfl (by kernel_rfl) (bearsF_cons b3 rfl (by kernel_rfl) (bearsF_cons b3 rfl (by kernel_rfl) (bearsF_cons b44 rfl (by kernel_rfl) (bearsF_cons b2 rfl (by kernel_rfl) (bearsF_cons b3 rfl (by kernel_rfl) (bearsF_cons b3 rfl (by kernel_rfl) (bearsF_one b45 rfl (by kernel_rfl))))))))) (by kernel_rfl))).imp fun x=>by unfold n47;simp only;omega
theorem b41:Bears Try.prog 41 (Kd.slice 47 k47) (fun l=>(l.map n47).sum):=(bears_slice Try.underlying41 b47 (by kernel_rfl)).imp fun l=>by omega
theorem b43:Bears Try.prog 43 k43 n43:=
 (bears_iso (g:=fun p=>⟨p.1,p.2.1,p.2.2⟩) (fun _=>rfl) (bears_struct Try.underlying43 (bearsF_cons b3 rfl (by kernel_rfl) (bearsF_cons b41 rfl (by kernel_rfl) (bearsF_one b25 rfl (by kernel_rfl)))) (by kernel_rfl))).imp fun x=>by unfold n43;simp only;omega
theorem pos78 (x:S78):1≤n78 x:=by unfold n78;omega
theorem pos47 (x:S47):1≤n47 x:=by unfold n47;omega
theorem pos43 (x:S43):1≤n43 x:=by unfold n43;omega
structure Tiny (B:Nat) (l:List S43):Prop where
 len:l.length≤B
 blk:∀ x∈l,x.f1.length≤B∧x.f2.length≤B∧∀ y∈x.f1,y.f3.length≤B∧y.f7.length≤B∧∀ z∈y.f7,z.f2.length≤B
 os:(osA l).length≤B
 ss:(ssA l).length≤B
theorem tiny_of {l:List S43} {B:Nat} (h:nC l≤B):Tiny B l:=by
 unfold nC at h;have hos:∀ x:S43,(osI x.f1).length≤n43 x:=fun x=>by
  have h1:(osI x.f1).length≤(x.f1.map n47).sum:=flat_sum (fun y=>by
   simp only [List.length_cons,osOf,List.length_map];have:=len_sum pos78 y.f7;unfold n47;omega) x.f1
  unfold n43;omega
 have hss:∀ x:S43,(ssI x.f1).length≤n43 x:=fun x=>by
  have h1:=len_sum pos47 x.f1;simp only [ssI,List.length_map];unfold n43;omega
 refine ⟨Nat.le_trans (len_sum pos43 l) h,fun x hx=>?_,Nat.le_trans (flat_sum hos l) h,Nat.le_trans (flat_sum hss l) h⟩;have h1:(x.f1.map n47).sum+x.f2.length+1≤(l.map n43).sum:=mem_sum (m:=n43) hx;have h2:=len_sum pos47 x.f1;refine ⟨by omega,by omega,fun y hy=>?_⟩;have h3:y.f3.length+(y.f7.map n78).sum+1≤(x.f1.map n47).sum:=mem_sum (m:=n47) hy;have h4:=len_sum pos78 y.f7;refine ⟨by omega,by omega,fun z hz=>?_⟩;have h6:z.f2.length+1≤(y.f7.map n78).sum:=mem_sum (m:=n78) hz;omega
theorem fitC_of {l:List S43} {B:Nat} (h:Tiny B l) (hB:B≤1000000000000):FitC l:=by
 refine ⟨by have:=h.len;omega,fun b hb=>?_,fun b hb=>?_,fun b hb i hi=>?_⟩
 ·have:=(h.blk _ (mem_rd43 l b hb)).1;omega
 ·have:=(h.blk _ (mem_rd43 l b hb)).2.1;omega
 ·have h2:=(h.blk _ (mem_rd43 l b hb)).2.2 _ (mem_rd47 _ i hi);exact ⟨by have:=h2.1;omega,by have:=h2.2.1;omega,fun k hk=>by have:=h2.2.2 _ (mem_rd78 _ k hk);omega⟩
theorem fitH_of {l:List S43} {B:Nat} (h:Tiny B l) (hB:B≤1000000000000):FitH l:=by
 refine ⟨by have:=h.len;omega,fun b hb=>?_,fun b hb=>?_,by have:=h.os;omega,by have:=h.ss;omega⟩
 ·have h1:=h.blk _ (mem_rd43 l b hb);refine ⟨by have:=h1.1;omega,fun i hi=>?_,fun i hi=>?_⟩
  ·have:=(h1.2.2 _ (mem_rd47 _ i hi)).1;omega
  ·have h2:=h1.2.2 _ (mem_rd47 _ i hi);exact ⟨by have:=h2.2.1;omega,fun k hk=>by have:=h2.2.2 _ (mem_rd78 _ k hk);omega⟩
 ·have:=(h.blk _ (mem_rd43 l b hb)).2.1;omega
end Go.Proofs.Ytklknkfoafdgpaa.LiveBulk
namespace Go.Proofs.Ytklknkfoafdgpaa.LiveEdgeP
open RowKit YtklknkfoafdgpaaW.PrintWords
open PLiveKnown LiveRunP LiveHandC LiveBulk
set_option linter.unusedVariables false
set_option linter.unusedSimpArgs false
def eSet (r:Int):S47:=⟨1,0,r,[⟨1,0⟩],0,0,0,[]⟩
def ePure (r:Int):S47:=⟨2,29,r,[⟨0,r⟩],0,0,0,[]⟩
def eSlot (r:Int):S47:=⟨6,0,-1,[],0,0,0,[⟨0,0,[⟨0,0⟩,⟨0,r⟩]⟩,⟨0,0,[⟨0,r+1⟩]⟩]⟩
def eArg (r:Int):S47:=⟨4,0,-1,[⟨0,r⟩],0,0,0,[]⟩
def ePlain (r:Int):S47:=⟨3,0,r,[⟨0,r-1⟩],0,0,0,[]⟩
def eIns (r:Int):List S47:=[eSet r,eSlot r,eSet r,eArg r,eSet r,ePure r,ePlain r,eSet r]
def eLast (r:Int):List S47:=[ePure r,eSlot r]
def edge (r:Int):List S43:=[⟨0,eIns r,[0,1]⟩,⟨0,[],[2,9,-1]⟩,⟨0,eLast r,[2]⟩]
theorem edge_tiny (r:Int):Tiny 1000 (edge r):=tiny_of (Nat.le_of_ble_eq_true rfl)
theorem edge_fitC (r:Int):FitC (edge r):=fitC_of (edge_tiny r) (by decide)
theorem edge_fitH (r:Int):FitH (edge r):=fitH_of (edge_tiny r) (by decide)
theorem none_fitC:FitC []:=⟨by decide,fun b hb=>absurd hb (Nat.not_lt_zero b),fun b hb=>absurd hb (Nat.not_lt_zero b),fun b hb=>absurd hb (Nat.not_lt_zero b)⟩
def ends:List Int:=[-1099511627776,-2,-1,0,1,31,32,62,63,64,65,127,128,447,448,510,511,512,513,1099511627776]
theorem ends_at (i:Nat): -1099511627776≤rd ends (i:Int)∧rd ends (i:Int)≤1099511627776:=by
 by_cases h:i<ends.length
 ·have hm:ends[i]∈ends:=List.getElem_mem h;have hr:rd ends (i:Int)=ends[i]:=by simp [rd,List.getD_eq_getElem?_getD,h]
  rw [hr];have key:∀ x∈ends,-1099511627776≤x∧x≤1099511627776:=by decide
  exact key _ hm
 ·have hr:rd ends (i:Int)=0:=by
   have h':ends.length≤i:=Nat.le_of_not_lt h
   simp [rd,List.getD_eq_getElem?_getD,List.getElem?_eq_none h']
  rw [hr];exact ⟨by decide,by decide⟩
end Go.Proofs.Ytklknkfoafdgpaa.LiveEdgeP
namespace Go.Proofs.Ytklknkfoafdgpaa.LiveMark
set_option maxHeartbeats 8000000
set_option maxRecDepth 100000
open RowKit YtklknkfoafdgpaaW.PrintWords YtklknkfoafdgpaaW.PrintLast YtklknkfoafdgpaaW.PrintMore
open PLiveKnown LiveT LiveB LiveInv LiveSet LiveAhead LiveEnd LiveSettled LiveCopied LiveAft LiveRunP LiveSame LiveFit LiveEvt LiveRefP LiveHandP LiveHandS LiveHandB LiveHandC
attribute [local go_sem high] eqA82
set_option linter.unusedVariables false
set_option linter.unusedSimpArgs false
theorem rd_list {α:Type} {d:Kd α} {e n:Nat} {A:Option Addr} {W:World} {xs:List (List α)} (h:Kd.C (Kd.slice e d) W A n xs) (k:Nat) (hk:k<n) :
  ∃ ad B c,A=some ad∧W.cell? (ad.add k)=some (.slice B (xs.getD k []).length c)∧(xs.getD k []).length≤c∧Kd.C d W B (xs.getD k []).length (xs.getD k []):=by
 obtain ⟨ad,c,e,hcl,hK,hc⟩:=Kd.C_get h [] (k:Int) (by omega) (by omega);obtain ⟨B,cb,rfl,hl,hC⟩:=hK;refine ⟨ad,B,cb,e,?_,hl,hC⟩;have h0:=hc 0 _ rfl;simp only [Int.toNat_natCast] at h0;rw [show k*(Kd.slice _ d).sz+0=k by show k*1+0=k;omega] at h0;exact h0
theorem mem_osI {l:List S47} {x:List S82} (h:x∈osI l):∃ y,x=y++m82:=by
 simp only [osI,List.mem_flatMap,List.mem_cons,osOf,List.mem_map] at h;obtain ⟨a,_,rfl |⟨b,_,rfl⟩⟩:=h
 ·exact ⟨_,rfl⟩
 ·exact ⟨_,rfl⟩
theorem osA_at (l:List S43) (k:Nat) (hk:k<(osA l).length):∃ y,(osA l).getD k []=y++m82:=by
 have h:(osA l).getD k []∈osA l:=by
  rw [List.getD_eq_getElem?_getD,List.getElem?_eq_getElem hk];exact List.getElem_mem hk
 unfold osA at h;obtain ⟨b,_,hb⟩:=List.mem_flatMap.mp h;exact mem_osI hb
theorem ssA_at (l:List S43) (k:Nat) (hk:k<(ssA l).length):∃ y,(ssA l).getD k []=y++m78:=by
 have h:(ssA l).getD k []∈ssA l:=by
  rw [List.getD_eq_getElem?_getD,List.getElem?_eq_getElem hk];exact List.getElem_mem hk
 unfold ssA ssI at h;obtain ⟨b,_,hb⟩:=List.mem_flatMap.mp h;obtain ⟨x,_,hx⟩:=List.mem_map.mp hb;exact ⟨_,hx.symm⟩
theorem nsA_at (l:List S43) (k:Nat) (hk:k<l.length):(nsA l).getD k []=(rd_T43 l k).f2++mI:=by
 rw [rd43 l k hk]
 simp [nsA,List.getD_eq_getElem?_getD,hk]
theorem isA_at (l:List S43) (k:Nat) (hk:k<l.length):(isA l).getD k []=(rd_T43 l k).f1++m47:=by
 rw [rd43 l k hk]
 simp [isA,List.getD_eq_getElem?_getD,hk]
theorem m82_at {W:World} {A:Option Addr} {y:List S82} (h:Kd.C k82 W A (y++m82).length (y++m82)) (i:Nat) (hi:i<16):∃ ad,A=some ad∧W.cell? (ad.add ((y.length+i)*2))=some (.int .i64 (-7))∧W.cell? ⟨(ad.add ((y.length+i)*2)).block,(ad.add ((y.length+i)*2)).off+1,none⟩=some (.int .i64 i):=by
 have hl:(y++m82).length=y.length+16:=by rw [List.length_append];rfl
 obtain ⟨ad,e,h0,h1⟩:=at_T82 h ((y.length+i:Nat):Int) (by omega) (by omega);have hr:rd_T82 (y++m82) ((y.length+i:Nat):Int)=⟨-7,(i:Int)⟩:=by
  simp only [rd_T82,Int.toNat_natCast,List.getD_eq_getElem?_getD];rw [List.getElem?_append_right (by omega),Nat.add_sub_cancel_left]
  simp [m82,hi]
 rw [hr] at h0 h1;simp only [Int.toNat_natCast] at h0 h1;exact ⟨ad,e,h0,h1⟩
theorem m78_at {W:World} {A:Option Addr} {y:List S78} (h:Kd.C k78 W A (y++m78).length (y++m78)) (i:Nat) (hi:i<16):∃ ad A2 c2,A=some ad∧W.cell? (ad.add ((y.length+i)*3))=some (.int .i64 (-7))∧W.cell? ⟨(ad.add ((y.length+i)*3)).block,(ad.add ((y.length+i)*3)).off+1,none⟩=some (.int .i64 i)∧W.cell? ⟨(ad.add ((y.length+i)*3)).block,(ad.add ((y.length+i)*3)).off+2,none⟩=some (.slice A2 0 c2):=by
 have hl:(y++m78).length=y.length+16:=by rw [List.length_append];rfl
 obtain ⟨ad,A2,c2,e,h0,h1,h2,_⟩:=at_T78 h ((y.length+i:Nat):Int) (by omega) (by omega);have hr:rd_T78 (y++m78) ((y.length+i:Nat):Int)=⟨-7,(i:Int),[]⟩:=by
  simp only [rd_T78,Int.toNat_natCast,List.getD_eq_getElem?_getD];rw [List.getElem?_append_right (by omega),Nat.add_sub_cancel_left]
  simp [m78,hi]
 rw [hr] at h0 h1 h2;simp only [Int.toNat_natCast] at h0 h1 h2;exact ⟨ad,A2,c2,e,h0,h1,h2⟩
theorem m47_at {W:World} {A:Option Addr} {y:List S47} (h:Kd.C k47 W A (y++m47).length (y++m47)) (i:Nat) (hi:i<16):∃ ad A3 c3 A7 c7,A=some ad∧InsAt W (ad.add ((y.length+i)*8)) ⟨-7,0,0,[],0,(i:Int),0,[]⟩ A3 c3 A7 c7:=by
 have hl:(y++m47).length=y.length+16:=by rw [List.length_append];rfl
 obtain ⟨ad,A3,c3,A7,c7,e,hin,_⟩:=rd_ins h (y.length+i) (by omega);have hr:rd_T47 (y++m47) ((y.length+i:Nat):Int)=⟨-7,0,0,[],0,(i:Int),0,[]⟩:=by
  simp only [rd_T47,Int.toNat_natCast,List.getD_eq_getElem?_getD];rw [List.getElem?_append_right (by omega),Nat.add_sub_cancel_left]
  simp [m47,hi]
 rw [hr] at hin;exact ⟨ad,A3,c3,A7,c7,e,hin⟩
theorem mI_at {W:World} {A:Option Addr} {y:List Int} (h:Kd.C (Kd.int .i64) W A (y++mI).length (y++mI)) (i:Nat) (hi:i<16):∃ ad,A=some ad∧W.cell? (ad.add (y.length+i))=some (.int .i64 (-7-(i:Int))):=by
 have hl:(y++mI).length=y.length+16:=by rw [List.length_append];rfl
 obtain ⟨ad,e,h0⟩:=Kd.at_int h ((y.length+i:Nat):Int) (by omega) (by omega);have hr:rd (y++mI) ((y.length+i:Nat):Int)= -7-(i:Int):=by
  simp only [rd,Int.toNat_natCast,List.getD_eq_getElem?_getD];rw [List.getElem?_append_right (by omega),Nat.add_sub_cancel_left]
  simp [mI,hi]
 rw [hr] at h0;simp only [Int.toNat_natCast] at h0;exact ⟨ad,e,h0⟩
theorem m43_at {W:World} {A:Option Addr} {y:List S43} (h:Kd.C k43 W A (y++m43).length (y++m43)) (i:Nat) (hi:i<16):∃ ad A1 c1 A2 c2,A=some ad∧W.cell? (ad.add ((y.length+i)*3))=some (.int .i64 (-7-(i:Int)))∧W.cell? ⟨(ad.add ((y.length+i)*3)).block,(ad.add ((y.length+i)*3)).off+1,none⟩=some (.slice A1 0 c1)∧W.cell? ⟨(ad.add ((y.length+i)*3)).block,(ad.add ((y.length+i)*3)).off+2,none⟩=some (.slice A2 0 c2):=by
 have hl:(y++m43).length=y.length+16:=by rw [List.length_append];rfl
 obtain ⟨ad,A1,c1,A2,c2,e,h0,h1,h2,_⟩:=at_T43 h ((y.length+i:Nat):Int) (by omega) (by omega);have hr:rd_T43 (y++m43) ((y.length+i:Nat):Int)=⟨-7-(i:Int),[],[]⟩:=by
  simp only [rd_T43,Int.toNat_natCast,List.getD_eq_getElem?_getD];rw [List.getElem?_append_right (by omega),Nat.add_sub_cancel_left]
  simp [m43,hi]
 rw [hr] at h0 h1 h2;simp only [Int.toNat_natCast] at h0 h1 h2;exact ⟨ad,A1,c1,A2,c2,e,h0,h1,h2⟩
theorem marked32_calls {w0 w:World} {gh:Nat} {fn rg:Int} {A:Option Addr} {n c:Nat} {vO vS vN vI:Value} {bs:List S43} (h:HK w0 w gh fn rg A n c vO vS vN vI bs) (hf:FitH bs) :
  Calls Try.prog 32 #[.pointer (some ⟨gh,0,none⟩)] w fun e w'=>e= .returned (.bool true)∧Below w.heap.size w w':=by
 have H0:Aside0 (HK w0 w gh fn rg A n c vO vS vN vI bs∧Below w.heap.size w w):=⟨h,Below.refl _ _⟩
 have HFT:=ak hf;obtain ⟨Ao,co,hvo⟩:=Kd.R_slice h.O;obtain ⟨As,cs,hvs⟩:=Kd.R_slice h.S;obtain ⟨An,cn,hvn⟩:=Kd.R_slice h.N;obtain ⟨Ai,ci,hvi⟩:=Kd.R_slice h.I;subst hvo hvs hvn hvi;have hmo:(osA bs).length≤9223372036854775807:=by have:=hf.os;omega
 have hms:(ssA bs).length≤9223372036854775807:=by have:=hf.ss;omega
 have hmb:bs.length≤9223372036854775000:=by have:=hf.blocks;omega
 have hln:(nsA bs).length=bs.length:=by simp [nsA]
 have hli:(isA bs).length=bs.length:=by simp [isA]
 have hlen:n=bs.length:=h.len;rw [hln,hli] at H0;subst hlen;clear h hf hln hli;generalize hno:(osA bs).length=no at *;generalize hnsq:(ssA bs).length=ns at *;have HNO:=ak hno;have HNS:=ak hnsq;clear hno hnsq
 go_enter Try.func32,Try.ntmps32
 go_wp2_with fail
 go_loopw [3] (fun v3 wi=>∃ (k:Nat),k≤no∧v3= .int .i64 k∧Aside0 (HK w0 wi gh fn rg A bs.length c (.slice Ao no co) (.slice As ns cs) (.slice An bs.length cn) (.slice Ai bs.length ci) bs∧Below w.heap.size w wi)) (fun v3 _=>no-(intOf v3).toNat)
 case atStart=>exact ⟨0,by omega,rfl,H0⟩
 case round =>
  clear H0;obtain ⟨k,hk,rfl,HH⟩:=hrel;have h3:wr.cell? ⟨gh,3,none⟩=some (.slice Ao no co):=(blk_cell HH.out.1.blk 3).trans rfl
  by_cases hlt:k<no
  ·obtain ⟨y,hy⟩:=osA_at bs k (by rw [HNO.out];exact hlt);have hC:=(Kd.R_reads' HH.out.1.O).2.2;rw [HNO.out] at hC;obtain ⟨ad,B,cB,e,hcell,_,hCB⟩:=rd_list hC k hlt;subst e;rw [hy] at hcell hCB;have hl:(y++m82).length=y.length+16:=by rw [List.length_append];rfl
   rw [hl] at hcell;have hym:y.length+16≤9223372036854775807:=by have:=Kd.C_max hCB;omega
   have HCB:Aside0 (∀ i,i<16→_):=⟨fun i hi=>m82_at hCB i hi⟩
   have HKL:=ak hlt;have hki:(k:Int)<no:=by omega
   have HCE:=ak hcell;clear hC hy hCB hl hlt hk
   go_wp2_with fail
   clear h3 hcell;generalize wr=wo at *;have HB0:Aside0 (Below wo.heap.size wo wo):=⟨Below.refl _ _⟩
   go_loopw [5] (fun v5 wi=>∃ (i:Nat),i≤16∧v5= .int .i64 i∧Aside0 (Below wo.heap.size wo wi)) (fun v5 _=>16-(intOf v5).toNat)
   case atStart=>exact ⟨0,by omega,rfl,HB0⟩
   case round =>
    clear HB0;obtain ⟨i,hi,rfl,HB⟩:=hrel
    by_cases hlt:i<16
    ·have h3:=pw_cell_below HB.out ((blk_cell HH.out.1.blk 3).trans rfl:wo.cell? ⟨gh,3,none⟩=some (.slice (some ad) no co));have hcell:=pw_cell_below HB.out HCE.out;obtain ⟨ab,e,c0,c1⟩:=HCB.out i hlt;subst e;replace c0:=pw_cell_below HB.out c0;replace c1:=pw_cell_below HB.out c1;have HLT:=ak hlt;have hi16:(i:Int)<16:=by omega
     have hx0:0≤(y.length:Int)+i:=by omega
     have hxt:((y.length:Int)+i).toNat=y.length+i:=by omega
     have hxl:(y.length:Int)+i<(y.length:Int)+16:=by omega
     clear hlt hi
     go_wp2_with fail
     go_roundw
     case rel=>exact ⟨i+1,by have:=HLT.out;omega,by go_num,HB⟩
     case measure=>simp [intOf];omega
    ·obtain rfl:i=16:=by omega
     have hk2:=HKL.out
     go_wp2_with fail
     go_roundw
     case rel=>exact ⟨k+1,by omega,by go_num,⟨HH.out.1.next HB.out,below_step HH.out.2 HB.out⟩⟩
     case measure=>simp [intOf];omega
  ·obtain rfl:k=no:=by omega
   have H0:=HH;clear HH
   go_wp2_with fail
   clear h3 hlt hk
   go_loopw [6] (fun v6 wi=>∃ (q:Nat),q≤ns∧v6= .int .i64 q∧Aside0 (HK w0 wi gh fn rg A bs.length c (.slice Ao k co) (.slice As ns cs) (.slice An bs.length cn) (.slice Ai bs.length ci) bs∧Below w.heap.size w wi)) (fun v6 _=>ns-(intOf v6).toNat)
   case atStart=>exact ⟨0,by omega,rfl,H0⟩
   case round =>
    clear H0;obtain ⟨q,hk,rfl,HH⟩:=hrel;have h4:wr.cell? ⟨gh,4,none⟩=some (.slice As ns cs):=(blk_cell HH.out.1.blk 4).trans rfl
    by_cases hlt:q<ns
    ·obtain ⟨y,hy⟩:=ssA_at bs q (by rw [HNS.out];exact hlt);have hC:=(Kd.R_reads' HH.out.1.S).2.2;rw [HNS.out] at hC;obtain ⟨ad,B,cB,e,hcell,_,hCB⟩:=rd_list hC q hlt;subst e;rw [hy] at hcell hCB;have hl:(y++m78).length=y.length+16:=by rw [List.length_append];rfl
     rw [hl] at hcell;have hym:y.length+16≤9223372036854775807:=by have:=Kd.C_max hCB;omega
     have HCB:Aside0 (∀ i,i<16→_):=⟨fun i hi=>m78_at hCB i hi⟩
     have HKL:=ak hlt;have hki:(q:Int)<ns:=by omega
     have HCE:=ak hcell;clear hC hy hCB hl hlt hk
     go_wp2_with fail
     clear h4 hcell;generalize wr=wo at *;have HB0:Aside0 (Below wo.heap.size wo wo):=⟨Below.refl _ _⟩
     go_loopw [8] (fun v8 wi=>∃ (i:Nat),i≤16∧v8= .int .i64 i∧Aside0 (Below wo.heap.size wo wi)) (fun v8 _=>16-(intOf v8).toNat)
     case atStart=>exact ⟨0,by omega,rfl,HB0⟩
     case round =>
      clear HB0;obtain ⟨i,hi,rfl,HB⟩:=hrel
      by_cases hlt:i<16
      ·have h4:=pw_cell_below HB.out ((blk_cell HH.out.1.blk 4).trans rfl:wo.cell? ⟨gh,4,none⟩=some (.slice (some ad) ns cs));have hcell:=pw_cell_below HB.out HCE.out;obtain ⟨ab,A2,c2,e,c0,c1,c2'⟩:=HCB.out i hlt;subst e;replace c0:=pw_cell_below HB.out c0;replace c1:=pw_cell_below HB.out c1;replace c2':=pw_cell_below HB.out c2';have HLT:=ak hlt;have hi16:(i:Int)<16:=by omega
       have hx0:0≤(y.length:Int)+i:=by omega
       have hxt:((y.length:Int)+i).toNat=y.length+i:=by omega
       have hxl:(y.length:Int)+i<(y.length:Int)+16:=by omega
       clear hlt hi
       go_wp2_with (first
        |((with_reducible refine gate_dst (N:=9) rfl ?_);refine alloc78_event rfl rfl rfl ?_;intro g9 w12 hg12 hA12 hb12;have HG9:=ak hg12;have HB12:=ak hb12;have z0:w12.cell? ⟨g9,0,none⟩=some (.int .i64 0):=(qk hA12 0);have y0:=blk_frozen hA12 0;have z1:w12.cell? ⟨g9,1,none⟩=some (.int .i64 0):=(qk hA12 1);have y1:=blk_frozen hA12 1;have z2:w12.cell? ⟨g9,2,none⟩=some (.slice none 0 0):=(qk hA12 2);have y2:=blk_frozen hA12 2;clear hg12 hA12 hb12 h4 hcell c0 c1 c2'))
       go_roundw
       case rel=>exact ⟨i+1,by have:=HLT.out;omega,by go_num,⟨below_step HB.out (below_set (below_set (below_set HB12.out HG9.out) HG9.out) HG9.out)⟩⟩
       case measure=>simp [intOf];omega
      ·obtain rfl:i=16:=by omega
       have hk2:=HKL.out
       go_wp2_with fail
       go_roundw
       case rel=>exact ⟨q+1,by omega,by go_num,⟨HH.out.1.next HB.out,below_step HH.out.2 HB.out⟩⟩
       case measure=>simp [intOf];omega
    ·obtain rfl:q=ns:=by omega
     have H0:=HH;clear HH
     go_wp2_with fail
     clear h4 hlt hk
     go_loopw [10] (fun v10 wi=>∃ (b:Nat),b≤bs.length∧v10= .int .i64 b∧Aside0 (HK w0 wi gh fn rg A bs.length c (.slice Ao k co) (.slice As q cs) (.slice An bs.length cn) (.slice Ai bs.length ci) bs∧Below w.heap.size w wi)) (fun v10 _=>bs.length-(intOf v10).toNat)
     case atStart=>exact ⟨0,by omega,rfl,H0⟩
     case round =>
      clear H0;obtain ⟨b,hk,rfl,HH⟩:=hrel;have h6:wr.cell? ⟨gh,6,none⟩=some (.slice Ai bs.length ci):=(blk_cell HH.out.1.blk 6).trans rfl;have h5:wr.cell? ⟨gh,5,none⟩=some (.slice An bs.length cn):=(blk_cell HH.out.1.blk 5).trans rfl
      by_cases hlt:b<bs.length
      ·have hC:=(Kd.R_reads' HH.out.1.I).2.2;have hCN:=(Kd.R_reads' HH.out.1.N).2.2;rw [show (isA bs).length=bs.length by simp [isA]] at hC;rw [show (nsA bs).length=bs.length by simp [nsA]] at hCN;obtain ⟨ad,B,cB,e,hcell,_,hCB⟩:=rd_list hC b hlt;obtain ⟨an,BN,cBN,e2,hcelln,_,hCBN⟩:=rd_list hCN b hlt;subst e e2;rw [isA_at bs b hlt] at hcell hCB;rw [nsA_at bs b hlt] at hcelln hCBN;generalize (rd_T43 bs b).f1=y at *;generalize (rd_T43 bs b).f2=yn at *;have hl:(y++m47).length=y.length+16:=by rw [List.length_append];rfl
       have hln:(yn++mI).length=yn.length+16:=by rw [List.length_append];rfl
       rw [hl] at hcell;rw [hln] at hcelln;have hym:y.length+16≤9223372036854775807:=by have:=Kd.C_max hCB;omega
       have hymn:yn.length+16≤9223372036854775807:=by have:=Kd.C_max hCBN;omega
       have HCB:Aside0 (∀ i,i<16→_):=⟨fun i hi=>m47_at hCB i hi⟩
       have HCN:Aside0 (∀ i,i<16→_):=⟨fun i hi=>mI_at hCBN i hi⟩
       have HKL:=ak hlt;have hki:(b:Int)<bs.length:=by omega
       have HCE:=ak hcell;have HCEN:=ak hcelln;clear hC hCN hCB hCBN hl hln hlt hk
       go_wp2_with fail
       clear h5 h6 hcell hcelln;generalize wr=wo at *;have HB0:Aside0 (Below wo.heap.size wo wo):=⟨Below.refl _ _⟩
       go_loopw [13] (fun v13 wi=>∃ (i:Nat),i≤16∧v13= .int .i64 i∧Aside0 (Below wo.heap.size wo wi)) (fun v13 _=>16-(intOf v13).toNat)
       case atStart=>exact ⟨0,by omega,rfl,HB0⟩
       case round =>
        clear HB0;obtain ⟨i,hi,rfl,HB⟩:=hrel
        by_cases hlt:i<16
        ·have h6:=pw_cell_below HB.out ((blk_cell HH.out.1.blk 6).trans rfl:wo.cell? ⟨gh,6,none⟩=some (.slice (some ad) bs.length ci));have h5:=pw_cell_below HB.out ((blk_cell HH.out.1.blk 5).trans rfl:wo.cell? ⟨gh,5,none⟩=some (.slice (some an) bs.length cn));have hcell:=pw_cell_below HB.out HCE.out;have hcelln:=pw_cell_below HB.out HCEN.out;obtain ⟨ab,A3,d3,A7,d7,e,hin⟩:=HCB.out i hlt;obtain ⟨an2,e2,n0⟩:=HCN.out i hlt;subst e e2;obtain ⟨q0,q1,q2,q3,q4,q5,q6,q7⟩:=hin.below HB.out;simp only at q0 q1 q2 q3 q4 q5 q6 q7
         replace n0:=pw_cell_below HB.out n0;have HLT:=ak hlt;have hi16:(i:Int)<16:=by omega
         have hx0:0≤(y.length:Int)+i:=by omega
         have hxt:((y.length:Int)+i).toNat=y.length+i:=by omega
         have hxl:(y.length:Int)+i<(y.length:Int)+16:=by omega
         have hn0:0≤(yn.length:Int)+i:=by omega
         have hnt:((yn.length:Int)+i).toNat=yn.length+i:=by omega
         have hnl:(yn.length:Int)+i<(yn.length:Int)+16:=by omega
         clear hlt hi hin
         go_upto_region 29 with (first
          |((with_reducible refine gate_dst (N:=14) rfl ?_);refine box47_zero_event rfl rfl rfl ?_;intro g14 w12 hg12 hA12 hb12;have HG14:=ak hg12;have HA14:=ak hA12;have HB12:=ak hb12;have z0:w12.cell? ⟨g14,0,none⟩=some (.int .i64 0):=(qk hA12 0);have y0:=blk_frozen hA12 0;have z1:w12.cell? ⟨g14,1,none⟩=some (.int .i64 0):=(qk hA12 1);have y1:=blk_frozen hA12 1;have z2:w12.cell? ⟨g14,2,none⟩=some (.int .i64 0):=(qk hA12 2);have y2:=blk_frozen hA12 2;have z3:w12.cell? ⟨g14,3,none⟩=some (.slice none 0 0):=(qk hA12 3);have y3:=blk_frozen hA12 3;have z4:w12.cell? ⟨g14,4,none⟩=some (.int .i64 0):=(qk hA12 4);have y4:=blk_frozen hA12 4;have z5:w12.cell? ⟨g14,5,none⟩=some (.int .i64 0):=(qk hA12 5);have y5:=blk_frozen hA12 5;have z6:w12.cell? ⟨g14,6,none⟩=some (.int .i64 0):=(qk hA12 6);have y6:=blk_frozen hA12 6;have z7:w12.cell? ⟨g14,7,none⟩=some (.slice none 0 0):=(qk hA12 7);have y7:=blk_frozen hA12 7;clear hg12 hA12 hb12))
         have HM:Aside0 (((((((((w12.setCell ⟨g14,0,none⟩ (.int .i64 (-7))).setCell ⟨g14,1,none⟩ (.int .i64 0)).setCell ⟨g14,2,none⟩ (.int .i64 0)).setCell ⟨g14,3,none⟩ (.slice A3 0 d3)).setCell ⟨g14,4,none⟩ (.int .i64 0)).setCell ⟨g14,5,none⟩ (.int .i64 i)).setCell ⟨g14,6,none⟩ (.int .i64 0)).setCell ⟨g14,7,none⟩ (.slice A7 0 d7)).heap[g14]? =some (.cells (row47 ⟨-7,0,0,[],0,(i:Int),0,[]⟩ (.slice A3 0 d3) (.slice A7 0 d7)) 47 (0,0))):=⟨put47_blk HA14.out rfl _ _ _ _ _ _ _ _⟩
         have HWB:Aside0 (Below wr.heap.size wr ((((((((w12.setCell ⟨g14,0,none⟩ (.int .i64 (-7))).setCell ⟨g14,1,none⟩ (.int .i64 0)).setCell ⟨g14,2,none⟩ (.int .i64 0)).setCell ⟨g14,3,none⟩ (.slice A3 0 d3)).setCell ⟨g14,4,none⟩ (.int .i64 0)).setCell ⟨g14,5,none⟩ (.int .i64 i)).setCell ⟨g14,6,none⟩ (.int .i64 0)).setCell ⟨g14,7,none⟩ (.slice A7 0 d7))):=⟨LiveRunW.put47_below HB12.out HG14.out _ _ _ _ _ _ _ _⟩
         generalize ((((((((w12.setCell ⟨g14,0,none⟩ (.int .i64 (-7))).setCell ⟨g14,1,none⟩ (.int .i64 0)).setCell ⟨g14,2,none⟩ (.int .i64 0)).setCell ⟨g14,3,none⟩ (.slice A3 0 d3)).setCell ⟨g14,4,none⟩ (.int .i64 0)).setCell ⟨g14,5,none⟩ (.int .i64 i)).setCell ⟨g14,6,none⟩ (.int .i64 0)).setCell ⟨g14,7,none⟩ (.slice A7 0 d7))=wm at HM HWB ⊢;clear z0 z1 z2 z3 z4 z5 z6 z7 y0 y1 y2 y3 y4 y5 y6 y7 HA14 HB12 q0 q1 q2 q3 q4 q5 q6 q7 h6 hcell w12;replace h5:=pw_cell_below HWB.out h5;replace hcelln:=pw_cell_below HWB.out hcelln;replace n0:=pw_cell_below HWB.out n0
         have i0:wm.cell? ⟨g14,0,none⟩=some (.int .i64 (-7)):=qj HM 0;have i3:wm.cell? ⟨g14,3,none⟩=some (.slice A3 0 d3):=qj HM 3;have i5:wm.cell? ⟨g14,5,none⟩=some (.int .i64 i):=qj HM 5;have i7:wm.cell? ⟨g14,7,none⟩=some (.slice A7 0 d7):=qj HM 7
         go_wp2_with fail
         go_roundw
         case rel=>exact ⟨i+1,by have:=HLT.out;omega,by go_num,⟨below_step HB.out HWB.out⟩⟩
         case measure=>simp [intOf];omega
        ·obtain rfl:i=16:=by omega
         have hk2:=HKL.out
         go_wp2_with fail
         go_roundw
         case rel=>exact ⟨b+1,by omega,by go_num,⟨HH.out.1.next HB.out,below_step HH.out.2 HB.out⟩⟩
         case measure=>simp [intOf];omega
      ·obtain rfl:b=bs.length:=by omega
       clear hlt hk;have h7:wr.cell? ⟨gh,7,none⟩=some (.slice A (bs.length+16) c):=(blk_cell HH.out.1.blk 7).trans rfl
       go_wp2_with fail
       clear h5 h6 h7;generalize wr=wo at *;have HB0:Aside0 (Below wo.heap.size wo wo):=⟨Below.refl _ _⟩
       have HCB:Aside0 (∀ i,i<16→_):=⟨fun i hi=>m43_at ((Kd.S_reads' HH.out.1.B).2.2) i hi⟩
       go_loopw [16] (fun v16 wi=>∃ (i:Nat),i≤16∧v16= .int .i64 i∧Aside0 (Below wo.heap.size wo wi)) (fun v16 _=>16-(intOf v16).toNat)
       case atStart=>exact ⟨0,by omega,rfl,HB0⟩
       case round =>
        clear HB0;obtain ⟨i,hi,rfl,HB⟩:=hrel
        by_cases hlt:i<16
        ·have h7:=pw_cell_below HB.out ((blk_cell HH.out.1.blk 7).trans rfl:wo.cell? ⟨gh,7,none⟩=some (.slice A (bs.length+16) c));obtain ⟨ab,A1,c1,A2,c2,e,q0,q1,q2⟩:=HCB.out i hlt;subst e;replace q0:=pw_cell_below HB.out q0;replace q1:=pw_cell_below HB.out q1;replace q2:=pw_cell_below HB.out q2;have HLT:=ak hlt;have hi16:(i:Int)<16:=by omega
         have hx0:0≤(bs.length:Int)+i:=by omega
         have hxt:((bs.length:Int)+i).toNat=bs.length+i:=by omega
         have hxl:(bs.length:Int)+i<(bs.length:Int)+16:=by omega
         clear hlt hi
         go_wp2_with (first
          |((with_reducible refine gate_dst (N:=17) rfl ?_);refine LiveRunW.zero_event 43 #[.int .i64 0,.slice none 0 0,.slice none 0 0] rfl rfl qb ?_;intro g17 w12 hg12 hA12 hb12;have HG17:=ak hg12;have HB12:=ak hb12;have z0:w12.cell? ⟨g17,0,none⟩=some (.int .i64 0):=(qk hA12 0);have y0:=blk_frozen hA12 0;have z1:w12.cell? ⟨g17,1,none⟩=some (.slice none 0 0):=(qk hA12 1);have y1:=blk_frozen hA12 1;have z2:w12.cell? ⟨g17,2,none⟩=some (.slice none 0 0):=(qk hA12 2);have y2:=blk_frozen hA12 2;clear hg12 hA12 hb12 h7 q0 q1 q2))
         go_roundw
         case rel=>exact ⟨i+1,by have:=HLT.out;omega,by go_num,⟨below_step HB.out (below_set (below_set (below_set HB12.out HG17.out) HG17.out) HG17.out)⟩⟩
         case measure=>simp [intOf];omega
        ·obtain rfl:i=16:=by omega
         go_wp2_with fail
         go_ret
         exact ⟨rfl,below_step HH.out.2 HB.out⟩
end Go.Proofs.Ytklknkfoafdgpaa.LiveMark
