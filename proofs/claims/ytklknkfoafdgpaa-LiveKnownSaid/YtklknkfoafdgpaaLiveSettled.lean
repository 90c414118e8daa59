import Derived.Test.YtklknkfoafdgpaaLiveInv
import Derived.DeepKeys
namespace Go.Proofs.Ytklknkfoafdgpaa.LiveSettled
set_option maxHeartbeats 1600000
set_option maxRecDepth 100000
open RowKit YtklknkfoafdgpaaW.PrintWords YtklknkfoafdgpaaW.PrintLast YtklknkfoafdgpaaW.PrintMore
open PLiveKnown LiveT LiveB LiveSet LiveAhead LiveEnd LiveInv
set_option linter.unusedVariables false
set_option linter.unusedSimpArgs false
theorem info64:(Try.prog.info? 64).map (fun i=>(i.zero,i.size,i.bytes))=some (some (.agg #[.int .u64 0,.int .u64 0,.int .u64 0,.int .u64 0,.int .u64 0,.int .u64 0,.int .u64 0,.int .u64 0]),8,64):=by kernel_rfl
def made (n:Nat):Array Value:=madeCells #[.int .u64 0,.int .u64 0,.int .u64 0,.int .u64 0,.int .u64 0,.int .u64 0,.int .u64 0,.int .u64 0] (n*8)
theorem make_run (n:Nat) (h:n*64≤281474976710656) (W:World):(Instr.makeSlice 87 (.int .i64 n) (.int .i64 n)).run Try.prog W= .ok (.slice (some ⟨W.heap.size,0,none⟩) n n) (W.alloc (.cells (made n) 64)):=by
 obtain ⟨i0,hi,hzz⟩:=Option.map_eq_some_iff.1 info64;simp only [Prod.mk.injEq] at hzz;obtain ⟨hz0,hz1,hz2⟩:=hzz;have h1:=run_make (P:=Try.prog) W 87 64 i0 _ Try.underlying87 hi hz0 .i64 .i64 (n:Int) (n:Int) (by omega) (by omega) (by rw [hz2];omega) (by omega);rw [hz1] at h1;exact h1
def zero8:Array Value:= #[.int .u64 0,.int .u64 0,.int .u64 0,.int .u64 0,.int .u64 0,.int .u64 0,.int .u64 0,.int .u64 0]
theorem zero8_get (j:Nat) (hj:j<8):zero8[j]? =some (u64 (word none' j)):=by
 rw [word_none]
 rcases (by omega:j=0∨j=1∨j=2∨j=3∨j=4∨j=5∨j=6∨j=7) with rfl |rfl |rfl |rfl |rfl |rfl |rfl |rfl<;>rfl
theorem ws_made (W1:World) (g n:Nat) (h:W1.heap[g]? =some (.cells (made n) 64 (0,0))):WS W1 g n (fun _=>none'):=by
 refine ⟨made n,h,size_madeCells _ _,fun i hi j hj=>?_⟩;have h1:(i*8+j) % 8=j:=by omega
 have h2:i*8+j<n*8:=by omega
 have h3:(made n)[i*8+j]? =some (zero8[j]!):=by
  show (madeCells zero8 (n*8))[i*8+j]? =_
  have h4:zero8.size=8:=rfl;simp only [madeCells,Array.getElem?_map,h4,h1]
  simp [h2,h1]
 rw [h3,getElem!_def,zero8_get j hj]
theorem part_run (S:RS) (i:Nat) (hi:i<8) (w:World):(part 62 (cellsV S) (i*1)).run Try.prog w= .ok (u64 (word S i)) w:=by
 simp only [cellsV]
 rcases (by omega:i=0∨i=1∨i=2∨i=3∨i=4∨i=5∨i=6∨i=7) with rfl |rfl |rfl |rfl |rfl |rfl |rfl |rfl<;>go_simp
theorem items_run (d:Nat) (S T:RS) (w:World) (is:List Nat) (h:∀ i∈is,i<8):(Op.eqItems (d+1) 62 1 (cellsV S) (cellsV T) is).run Try.prog w= .ok (is.all fun i=>word S i==word T i) w:=by
 induction is with
 |nil=>simp [Op.eqItems]
 |cons i is ih =>
  have hi:=h i (by simp);have he:(Op.equalIn (d+1) 62 (u64 (word S i)) (u64 (word T i))).run Try.prog w= .ok (word S i==word T i) w:=by
   rw [show (word S i==word T i)=(((word S i:Nat):Int)==(word T i:Nat)) by rw [Bool.eq_iff_iff];simp;omega];exact run_equalIn_int w d 62 .u64 _ _ _ Try.underlying62
  simp only [Op.eqItems,Sem.run_bind,part_run _ i hi,he,Result.andThen_ok,List.all_cons];cases word S i==word T i
  ·simp
  ·simpa using ih (fun j hj=>h j (by simp [hj]))
theorem eq_run (S T:RS) (t:Bool) (hS:Regs S) (hT:Regs T) (ht:t=true↔S=T) (w:World):(Op.equalIn 10000 64 (setV S) (setV T)).run Try.prog w= .ok t w:=by
 unfold setV;have h2:(List.range 8).all (fun i=>word S i==word T i)=t:=by
  rw [Bool.eq_iff_iff,ht,List.all_eq_true];constructor
  ·intro h;exact word_inj hS hT fun i hi=>by simpa using h i (by simpa using hi)
  ·rintro rfl i _
   simp
 obtain ⟨i,hi,hz⟩:=Option.map_eq_some_iff.1 (show (Try.prog.info? 62).map (fun i=>(i.zero,i.size,i.bytes))=some (some (.int .u64 0),1,8) by kernel_rfl);rw [run_equalIn_array w 9999 (cellsV S) (cellsV T) Try.underlying64 hi];rw [←h2,show Try.prog.cellsOf 62=1 by kernel_rfl];exact items_run 9998 S T w (List.range 8) (by simp)
theorem ws_frozen {w:World} {g n:Nat} {V:Nat→RS} (h:WS w g n V) (o:Nat):w.frozen? ⟨g,o,none⟩=false:=by
 obtain ⟨cs,h1,h2,h3⟩:=h;exact blk_frozen h1 o
def putAt (w:World) (g o:Nat) (T:RS):World:=(((((((w.setCell ⟨g,o,none⟩ (u64 (word T 0))).setCell ⟨g,o+1,none⟩ (u64 (word T 1))).setCell ⟨g,o+2,none⟩ (u64 (word T 2))).setCell ⟨g,o+3,none⟩ (u64 (word T 3))).setCell ⟨g,o+4,none⟩ (u64 (word T 4))).setCell ⟨g,o+5,none⟩ (u64 (word T 5))).setCell ⟨g,o+6,none⟩ (u64 (word T 6))).setCell ⟨g,o+7,none⟩ (u64 (word T 7))
theorem putAt_grown (w:World) (g o:Nat) (T:RS):w.grownBy (putAt w g o T) (some g):=by
 unfold putAt;exact grown_trans (grown_trans (grown_trans (grown_trans (grown_trans (grown_trans (grown_trans (grown_set _ _ _ _) (grown_set _ _ _ _)) (grown_set _ _ _ _)) (grown_set _ _ _ _)) (grown_set _ _ _ _)) (grown_set _ _ _ _)) (grown_set _ _ _ _)) (grown_set _ _ _ _)
theorem putAt_ws {w:World} {g n:Nat} {V:Nat→RS} (h:WS w g n V) (b:Nat) (hb:b<n) (T:RS):WS (putAt w g (b*8) T) g n (put V b T):=by
 obtain ⟨cs,h1,h2,h3⟩:=h;unfold putAt;refine ⟨_,blk_set (blk_set (blk_set (blk_set (blk_set (blk_set (blk_set (blk_set h1 _ _) _ _) _ _) _ _) _ _) _ _) _ _) _ _,by simp [h2],fun i hi j hj=>?_⟩;have hlt:i*8+j<cs.size:=by omega
 simp only [Array.getElem?_setIfInBounds,Array.size_setIfInBounds]
 by_cases he:i=b
 ·subst he;simp only [put,if_pos]
  rcases (by omega:j=0∨j=1∨j=2∨j=3∨j=4∨j=5∨j=6∨j=7) with rfl |rfl |rfl |rfl |rfl |rfl |rfl |rfl<;>simp (disch:=omega) [hlt,show i*8<cs.size by omega]
 ·simp only [put,if_neg he];rw [if_neg (by omega),if_neg (by omega),if_neg (by omega),if_neg (by omega),if_neg (by omega),if_neg (by omega),if_neg (by omega),if_neg (by omega)];exact h3 i hi j hj
structure SW (w W:World) (g1 gf gw:Nat) (fn rg:Int) (Ab:Option Addr) (cb:Nat) (bs:List S43) (V:Nat→RS):Prop where
 below:Below w.heap.size w W
 c1:W.heap[g1]? =some (.cells #[.int .i64 fn,.int .i64 rg,.slice Ab bs.length cb] 24 (0,0))
 fl:Flow W gf fn rg Ab cb gw bs V
 n1:g1≠gw
 nf:gf≠gw
 l1:w.heap.size≤g1
 lf:w.heap.size≤gf
 lw:w.heap.size≤gw
section
variable {w W W1:World} {g1 gf gw:Nat} {fn rg:Int} {Ab:Option Addr} {cb:Nat} {bs:List S43} {V V1:Nat→RS}
theorem SW.next (h:SW w W g1 gf gw fn rg Ab cb bs V) (hb:Below W.heap.size W W1):SW w W1 g1 gf gw fn rg Ab cb bs V:=
 ⟨below_step h.below hb,(hb.block g1 (blk_lt h.c1)).trans h.c1,h.fl.below hb,h.n1,h.nf,h.l1,h.lf,h.lw⟩
theorem SW.put (h:SW w W g1 gf gw fn rg Ab cb bs V) (hC:Kd.C k43 w Ab bs.length bs) (hW:WS W1 gw bs.length V1) (hR:∀ i,i<bs.length→Regs (V1 i)) (hg:W.grownBy W1 (some gw)):SW w W1 g1 gf gw fn rg Ab cb bs V1:=by
 have hb:Below w.heap.size w W1:=h.below.grown hg h.below.size (fun k hk=>by cases hk;exact h.lw);exact ⟨hb,blk_grown h.c1 hg (by intro he;cases he;exact h.n1 rfl),⟨blk_grown h.fl.blk hg (by intro he;cases he;exact h.nf rfl),Kd.C_below hC hb,hW,hR⟩,h.n1,h.nf,h.l1,h.lf,h.lw⟩
end
def codeOf (bs:List S43):List Blk:=LiveT.abs iOf (bs.map fun b=>(b.f1,b.f2))
theorem codeOf_length (bs:List S43):(codeOf bs).length=bs.length:=by simp [codeOf,LiveT.abs]
theorem codeOf_get (bs:List S43) (b:Nat) (hb:b<bs.length):(codeOf bs)[b]? =some ((rd_T43 bs b).f1.map iOf,(rd_T43 bs b).f2):=by
 simp [codeOf,LiveT.abs,rd_T43,List.getD_eq_getElem?_getD,hb]
structure Mid (c:List Blk) (V0 V:Nat→RS) (ch:Bool) (k:Nat):Prop where
 inv:Inv c V
 ge:∀ i,i<c.length→Le (V0 i) (V i)
 same:ch=false→V=V0∧∀ b B,k≤b→c[b]? =some B→V b=back B.1 (endd c.length V B.2)
 more:ch=true→cnt V0 c.length<cnt V c.length
theorem Mid.start {c:List Blk} {V:Nat→RS} (h:Inv c V) (k:Nat) (hk:c.length≤k):Mid c V V false k:=
 ⟨h,fun _ _=>Le.rfl',fun _=>⟨rfl,fun b B hb hB=>by have:=(List.getElem?_eq_some_iff.mp hB).1;omega⟩,fun he=>by cases he⟩
theorem Mid.stay {c:List Blk} {V0 V:Nat→RS} {ch:Bool} {b:Nat} {B:Blk} (h:Mid c V0 V ch (b+1)) (hB:c[b]? =some B) (he:back B.1 (endd c.length V B.2)=V b):Mid c V0 V ch b:=
 ⟨h.inv,h.ge,fun hc=>⟨(h.same hc).1,fun i B' hi hB'=>by
  by_cases hi2:b+1≤i
  ·exact (h.same hc).2 i B' hi2 hB'
  ·obtain rfl:i=b:=by omega
   rw [hB] at hB';cases hB';exact he.symm⟩,h.more⟩
theorem Mid.turn {c:List Blk} {V0 V:Nat→RS} {ch:Bool} {b:Nat} {B:Blk} (h:Mid c V0 V ch (b+1)) (hB:c[b]? =some B) (he:¬ back B.1 (endd c.length V B.2)=V b):Mid c V0 (put V b (back B.1 (endd c.length V B.2))) true b:=by
 have hb:b<c.length:=(List.getElem?_eq_some_iff.mp hB).1;obtain ⟨hi,hle⟩:=h.inv.put hB;refine ⟨hi,fun i hi2=>Le.trans' (h.ge i hi2) (hle i hi2),fun hc=>absurd hc (by decide),fun _=>?_⟩;have h1:=cnt_mono c.length h.ge;have h2:=cnt_lt c.length hle b hb (hi.regs b hb) (by simp only [put,if_pos];exact fun hh=>he hh.symm);omega
structure InsAt (W:World) (ad:Addr) (x:S47) (A3:Option Addr) (c3:Nat) (A7:Option Addr) (c7:Nat):Prop where
 c0:W.cell? ad=some (.int .i64 x.f0)
 c1:W.cell? ⟨ad.block,ad.off+1,none⟩=some (.int .i64 x.f1)
 c2:W.cell? ⟨ad.block,ad.off+2,none⟩=some (.int .i64 x.f2)
 c3:W.cell? ⟨ad.block,ad.off+3,none⟩=some (.slice A3 x.f3.length c3)
 c4:W.cell? ⟨ad.block,ad.off+4,none⟩=some (.int .i64 x.f4)
 c5:W.cell? ⟨ad.block,ad.off+5,none⟩=some (.int .i64 x.f5)
 c6:W.cell? ⟨ad.block,ad.off+6,none⟩=some (.int .i64 x.f6)
 c7:W.cell? ⟨ad.block,ad.off+7,none⟩=some (.slice A7 x.f7.length c7)
theorem InsAt.below {w w1:World} {ad:Addr} {x:S47} {A3:Option Addr} {c3:Nat} {A7:Option Addr} {c7:Nat} (h:InsAt w ad x A3 c3 A7 c7) (hb:Below w.heap.size w w1):InsAt w1 ad x A3 c3 A7 c7:=
 ⟨pw_cell_below hb h.c0,pw_cell_below hb h.c1,pw_cell_below hb h.c2,pw_cell_below hb h.c3,pw_cell_below hb h.c4,pw_cell_below hb h.c5,pw_cell_below hb h.c6,pw_cell_below hb h.c7⟩
theorem rd_ins {w:World} {A:Option Addr} {n:Nat} {l:List S47} (hr:Kd.C k47 w A n l) (k:Nat) (hk:k<n):∃ ad A3 c3 A7 c7,A=some ad∧InsAt w (ad.add (k*8)) (rd_T47 l k) A3 c3 A7 c7∧RIn w (rd_T47 l k) A3 c3 A7 c7:=by
 obtain ⟨ad,A3,c3,A7,c7,e,h0,h1,h2,h3,h4,h5,h6,h7,l3,g3,l7,g7⟩:=at_T47 hr (k:Int) (by omega) (by omega);simp only [Int.toNat_natCast] at h0 h1 h2 h3 h4 h5 h6 h7;exact ⟨ad,A3,c3,A7,c7,e,⟨h0,h1,h2,h3,h4,h5,h6,h7⟩,⟨g3,l3,g7,l7⟩⟩
theorem back_drop (l:List S47) (E:RS) (m:Nat) (hm:m<l.length):back ((l.drop m).map iOf) E=LiveT.ahead (iOf (rd_T47 l m)) (back ((l.drop (m+1)).map iOf) E):=by
 have hg:rd_T47 l m=l[m]:=by simp [rd_T47,List.getD_eq_getElem?_getD,hm]
 rw [hg,List.drop_eq_getElem_cons hm];rfl
theorem settled_calls (fn rg:Int) (Ab:Option Addr) (cb:Nat) (bs:List S43) (w:World) (hC:Kd.C k43 w Ab bs.length bs) (hn:bs.length*64≤281474976710656) :
  Calls Try.prog 28 #[.agg #[.int .i64 fn,.int .i64 rg,.slice Ab bs.length cb]] w fun e w'=>∃ gf gw V,e= .returned (.pointer (some ⟨gf,0,none⟩))∧Below w.heap.size w w'∧Flow w' gf fn rg Ab cb gw bs V∧Lfp (LiveT.abs iOf (bs.map fun b=>(b.f1,b.f2))) V:=by
 have HC:=ak hC;have HN:=ak hn;have hmk:=make_run bs.length hn;clear hC hn;generalize hnb:bs.length=nb at *;have HNB:=ak hnb;clear hnb
 go_enter Try.func28,Try.ntmps28
 go_wp2_with (first
  |((with_reducible refine gate_dst (N:=1) rfl ?_);refine box_event ?hg (N:=1) ?hd (cs:= #[.int .i64 fn,.int .i64 rg,.slice Ab nb cb]) (t:=24) ?hr ?_;(case hd=>rfl);(case hg=>rfl);(case hr=>first |(go_simp;done) |(go_simp;rfl));intro g1 hg1 w1 hA1 hb1;have HG1:Aside0 (w.heap.size≤g1):=(⟨Nat.le_of_eq hg1.symm⟩);have HA1:=ak hA1;have HB1:=ak hb1;have u0:w1.cell? ⟨g1,0,none⟩=some (.int .i64 fn):=(qj HA1 0);have u1:w1.cell? ⟨g1,1,none⟩=some (.int .i64 rg):=(qj HA1 1);have u2:w1.cell? ⟨g1,2,none⟩=some (.slice Ab nb cb):=(qj HA1 2);clear hg1 hA1 hb1))
 have hl1:g1<w1.heap.size:=blk_lt HA1.out
 go_region_held3 (fun w'=>w'.cell? ⟨g1,0,none⟩=some (.int .i64 fn)∧w'.cell? ⟨g1,1,none⟩=some (.int .i64 rg)∧w'.cell? ⟨g1,2,none⟩=some (.slice Ab nb cb)) (first |trivial |go_keep) (fail)
 have H0:Aside0 (SW w (((w1.alloc (.cells (made nb) 64)).alloc (.cells #[.int .i64 fn,.int .i64 rg,.slice Ab nb cb,.slice (some ⟨w1.heap.size,0,none⟩) nb nb] 89)).drew) g1 (w1.heap.size+1) w1.heap.size fn rg Ab cb bs (fun _=>none')):=⟨by
  have b1:Below w1.heap.size w1 (((w1.alloc (.cells (made nb) 64)).alloc (.cells #[.int .i64 fn,.int .i64 rg,.slice Ab nb cb,.slice (some ⟨w1.heap.size,0,none⟩) nb nb] 89)).drew):=below_drew1 (below_alloc (below_alloc (Below.refl _ _) _) _);have hw:WS (w1.alloc (.cells (made nb) 64)) w1.heap.size nb (fun _=>none'):=ws_made _ _ _ (blk_new w1 _)
  have b2:Below (w1.alloc (.cells (made nb) 64)).heap.size (w1.alloc (.cells (made nb) 64)) (((w1.alloc (.cells (made nb) 64)).alloc (.cells #[.int .i64 fn,.int .i64 rg,.slice Ab nb cb,.slice (some ⟨w1.heap.size,0,none⟩) nb nb] 89)).drew):=below_drew1 (below_alloc (Below.refl _ _) _);have bw:=below_step HB1.out b1;have hs:(w1.alloc (.cells (made nb) 64)).heap.size=w1.heap.size+1:=by simp
  have hf:(((w1.alloc (.cells (made nb) 64)).alloc (.cells #[.int .i64 fn,.int .i64 rg,.slice Ab nb cb,.slice (some ⟨w1.heap.size,0,none⟩) nb nb] 89)).drew).heap[w1.heap.size+1]? =some (.cells (cells89 fn rg Ab bs.length cb w1.heap.size) 89 (0,0)):=by
   rw [←hs,HNB.out];exact blk_new (w1.alloc (.cells (made nb) 64)) _
  refine ⟨bw,by rw [HNB.out];exact (b1.block g1 hl1).trans HA1.out,⟨hf,Kd.C_below (by rw [HNB.out];exact HC.out) bw,by rw [HNB.out];exact ws_below hw b2,fun _ _=>none_regs⟩,by omega,by omega,HG1.out,by have:=HB1.out.size;omega,HB1.out.size⟩⟩
 generalize w1.heap.size+1=gf at H0 ⊢;generalize w1.heap.size=gw at H0 ⊢
 rename_i hHeld
 clear hmk hHeld u0 u1 u2 hl1 HA1 HB1 HG1;have hcl:Aside0 ((codeOf bs).length=nb):=⟨by rw [codeOf_length,HNB.out]⟩
 go_wp2_with fail
 go_loopg [4] (2*(nb*512)+1) (fun gk v4 wi=>∃ (V:Nat→RS) (ch:Bool),v4= .bool ch∧Aside0 (SW w wi g1 gf gw fn rg Ab cb bs V)∧Aside0 (Inv (codeOf bs) V)∧Aside0 (ch=false→Lfp (codeOf bs) V)∧Aside0 (2*(nb*512-cnt V nb)+ch.toNat≤gk))
 case atStart=>exact ⟨_,true,rfl,H0,⟨Inv.start _⟩,⟨fun h=>by cases h⟩,⟨by simp;omega⟩⟩
 case round =>
  obtain ⟨V,ch,rfl,HS,HI,HL,HM⟩:=hrel;clear H0;cases ch
  ·go_wp2_with fail
   go_ret
   exact ⟨gf,rfl,HS.out.below,gw,V,HS.out.fl,HL.out (by trivial)⟩
  ·have hu2:wr.cell? ⟨g1,2,none⟩=some (.slice Ab nb cb):=(blk_cell HS.out.c1 2).trans (by rw [HNB.out];rfl);have hnb2:=HN.out
   go_wp2_with fail
   clear hu2
   go_loopw [4,5] (fun v4 v5 wi=>∃ (V1:Nat→RS) (ch:Bool) (k:Nat) (b1:Int),k≤nb∧b1=(k:Int)-1∧v4= .bool ch∧v5= .int .i64 b1∧Aside0 (SW w wi g1 gf gw fn rg Ab cb bs V1)∧Aside0 (Mid (codeOf bs) V V1 ch k)) (fun _ v5 _=>(intOf v5+1).toNat)
   case atStart=>exact ⟨V,false,nb,(nb:Int)-1,by omega,rfl,rfl,by go_num,HS,⟨Mid.start HI.out _ (by rw [hcl.out];omega)⟩⟩
   case round =>
    clear HS;obtain ⟨V1,ch,k,b1,hk,hb1,rfl,rfl,HS,HMid⟩:=hrel
    by_cases h0:k=0
    ·subst h0;have hd:decide (0≤b1)=false:=decide_eq_false (by omega)
     go_wp2_with fail
     go_roundg (2*(nb*512-cnt V1 nb)+ch.toNat)
     case rel=>exact ⟨V1,ch,rfl,HS,⟨HMid.out.inv⟩,⟨fun hc=>HMid.out.inv.done fun b B hB=>((HMid.out.same hc).2 b B (Nat.zero_le _) hB)⟩,⟨Nat.le_refl _⟩⟩
     case measure =>
      have h1:=HM.out;have h2:=cnt_le V1 nb;have h3:=HMid.out.more;have h4:=HMid.out.same;rw [hcl.out] at h3;cases ch
      ·have h5:=(h4 rfl).1;subst h5
       simp at h1 ⊢
       omega
      ·have h5:=h3 rfl
       simp at h1 ⊢
       omega
    ·obtain ⟨b,rfl⟩:∃ b,k=b+1:=⟨k-1,by omega⟩
     obtain rfl:b1=(b:Int):=by omega
     clear hb1 h0;have hbs:Aside0 (b<bs.length):=⟨by rw [HNB.out];omega⟩
     obtain ⟨ad,A1,c1,A2,c2,e,hx0,hx1,hx2,l1,hg1,l2,hg2⟩:=rd_block (W:=wr) (n:=bs.length) (by rw [HNB.out];exact HC.out) HS.out.below b hbs.out;subst e;have HX1:=ak hx1;have HI1:=ak hg1;have hmx:(rd_T43 bs b).f1.length≤9223372036854775807:=Kd.C_max hg1;clear hx0 hx1 hx2 l1 l2 hg1 hg2;have hbi:(b:Int)<nb:=by omega
     have HU2:Aside0 (wr.cell? ⟨g1,2,none⟩=some (.slice (some ad) nb cb)):=⟨(blk_cell HS.out.c1 2).trans (by rw [HNB.out];rfl)⟩
     obtain ⟨E,hE⟩:∃ E,endd nb V1 (rd_T43 bs b).f2=E:=⟨_,rfl⟩
     have HE:=ak hE;have HER:Aside0 (Regs E):=⟨by rw [←hE];exact endd_regs _ (fun n hn=>HMid.out.inv.regs n (by rw [hcl.out];exact hn))⟩
     clear hE
     go_wp2_with (first
      |(go_at_call 29;refine (end_calls gf fn rg (some ad) cb gw bs V1 b hbs.out _ HS.out.fl).mono ?_;rw [HNB.out,HE.out];rintro e w5 ⟨rfl,hb5⟩;have HB5:=ak hb5;clear hb5)
      |((with_reducible refine gate_dst (N:=6) rfl ?_);refine setAlloc_event rfl rfl rfl ?_;intro gs w6 hgs hA6 hb6;have HG6:=ak (Nat.le_trans HB5.out.size hgs);have HA6:=ak hA6;have HB6:=ak (below_step HB5.out hb6);clear hgs hA6 hb6)
      |(refine setStore_event rfl rfl rfl rfl rfl HA6.out ?_;intro w7 hA7 hg7;have HA7:=ak hA7;have HB7:=ak (HB6.out.grown hg7 HB6.out.size (fun k hk=>by cases hk;exact HG6.out));have u2:=pw_cell_below HB7.out HU2.out;have ux:=pw_cell_below HB7.out HX1.out;clear hA7 hg7))
     have HL0:Aside0 (Below wr.heap.size wr w7∧At w7 gs (back (((rd_T43 bs b).f1.drop (rd_T43 bs b).f1.length).map iOf) E)):=⟨HB7.out,by rw [List.drop_length];exact HA7.out⟩
     clear u2 ux HB5 HB6 HB7 HA6 HA7;have hE2:Aside0 (∀ m,Regs (back (((rd_T43 bs b).f1.drop m).map iOf) E)):=⟨fun m=>back_regs _ HER.out⟩
     have HGET:=ak (codeOf_get bs b hbs.out);have HRI:Aside0 (∀ m,m<(rd_T43 bs b).f1.length→∃ ad3 A3 c3 A7 c7,A1=some ad3∧InsAt w (ad3.add (m*8)) (rd_T47 (rd_T43 bs b).f1 m) A3 c3 A7 c7∧RIn w (rd_T47 (rd_T43 bs b).f1 m) A3 c3 A7 c7):=⟨fun m hm=>rd_ins HI1.out m hm⟩
     have HBD:Aside0 (∀ m,m<(rd_T43 bs b).f1.length→back (((rd_T43 bs b).f1.drop m).map iOf) E=LiveT.ahead (iOf (rd_T47 (rd_T43 bs b).f1 m)) (back (((rd_T43 bs b).f1.drop (m+1)).map iOf) E)):=⟨fun m hm=>back_drop _ E m hm⟩
     generalize hins:(rd_T43 bs b).f1=ins at *;clear hins HI1
     go_loopw [7] (fun v7 wi=>∃ (m:Nat) (i1:Int),m≤ins.length∧i1=(m:Int)-1∧v7= .int .i64 i1∧Aside0 (Below wr.heap.size wr wi∧At wi gs (back ((ins.drop m).map iOf) E))) (fun v7 _=>(intOf v7+1).toNat)
     case atStart=>exact ⟨ins.length,(ins.length:Int)-1,by omega,rfl,by go_num,HL0⟩
     case round =>
      clear HL0;obtain ⟨m,i1,hm,hi1,rfl,HA⟩:=hrel;have HS2:=ak (HS.out.next HA.out.1)
      by_cases h0:m=0
      ·subst h0;have hd:decide (0≤i1)=false:=decide_eq_false (by omega);rw [List.drop_zero] at HA;obtain ⟨S2,hS2⟩:∃ S2,back (ins.map iOf) E=S2:=⟨_,rfl⟩
       rw [hS2] at HA;have hS3:back (ins.map iOf) (endd (codeOf bs).length V1 (rd_T43 bs b).f2)=S2:=by rw [hcl.out,HE.out];exact hS2
       have hReg2:Regs S2:=by rw [←hS2];exact back_regs _ HER.out
       have hRegV:Regs (V1 b):=HS.out.fl.regs b hbs.out;have u3:wr.cell? ⟨gf,3,none⟩=some (.slice (some ⟨gw,0,none⟩) nb nb):=(blk_cell HS2.out.fl.blk 3).trans (by rw [HNB.out];rfl);obtain ⟨s0,s1,s2,s3,s4,s5,s6,s7,f0,f1,f2,f3,f4,f5,f6,f7⟩:=cells8 HA.out.2;clear f0 f1 f2 f3 f4 f5 f6 f7;obtain ⟨a0,a1,a2,a3,a4,a5,a6,a7⟩:=ws_cells HS2.out.fl.ws b hbs.out;have HS3:=ak hS3;clear hS2 hS3
       by_cases heq:S2=V1 b
       ·have heqr:=fun W=>eq_run S2 (V1 b) true hReg2 hRegV (by simp [heq]) W
        have HQ:=ak heq;clear hReg2 hRegV heq;simp only [setV,cellsV,LiveSet.u64] at heqr
        go_wp2_with fail
        go_region_with (fail)
        all_goals (
         clear heqr u3 s0 s1 s2 s3 s4 s5 s6 s7 a0 a1 a2 a3 a4 a5 a6 a7
         go_wp2_with fail
         go_roundw
         case rel=>exact ⟨V1,ch,b,(b:Int)-1,by omega,rfl,rfl,by go_num,⟨HS2.out.next (below_drew1 (Below.refl _ _))⟩,⟨HMid.out.stay HGET.out (by rw [HS3.out];exact HQ.out)⟩⟩
         case measure=>simp [intOf])
       ·have heqr:=fun W=>eq_run S2 (V1 b) false hReg2 hRegV (by simp [heq]) W
        have HQ:=ak heq;clear hReg2 hRegV heq;simp only [setV,cellsV,LiveSet.u64] at heqr
        go_wp2_with fail
        go_region_with (fail)
        all_goals (
         clear heqr;have HR5:Aside0 (∀ i,i<bs.length→Regs (put V1 b S2 i)):=(⟨fun i hi=>by
          simp only [put]
          split
          ·rw [←HS3.out];exact back_regs _ (by rw [hcl.out,HE.out];exact HER.out)
          ·exact HS2.out.fl.regs i hi⟩)
         have HS6:Aside0 (SW w (putAt wr gw (b*8) S2).drew.drew g1 gf gw fn rg (some ad) cb bs (put V1 b S2)):=(⟨(HS2.out.put (by rw [HNB.out];exact HC.out) (putAt_ws HS2.out.fl.ws b hbs.out S2) HR5.out (putAt_grown _ _ _ _)).next (below_drew1 (below_drew1 (Below.refl _ _)))⟩)
         have f0:=ws_frozen HS2.out.fl.ws (b*8);have f1:=ws_frozen HS2.out.fl.ws (b*8+1);have f2:=ws_frozen HS2.out.fl.ws (b*8+2);have f3:=ws_frozen HS2.out.fl.ws (b*8+3);have f4:=ws_frozen HS2.out.fl.ws (b*8+4);have f5:=ws_frozen HS2.out.fl.ws (b*8+5);have f6:=ws_frozen HS2.out.fl.ws (b*8+6);have f7:=ws_frozen HS2.out.fl.ws (b*8+7)
         go_wp2_with fail
         go_region_with (fail)
         all_goals (
          clear s0 s1 s2 s3 s4 s5 s6 s7 a0 a1 a2 a3 a4 a5 a6 a7 u3 f0 f1 f2 f3 f4 f5 f6 f7
          go_wp2_with fail
          go_roundw
          case rel=>exact ⟨put V1 b S2,true,b,(b:Int)-1,by omega,rfl,rfl,by go_num,HS6,⟨by rw [←HS3.out];exact HMid.out.turn HGET.out (by rw [HS3.out];exact HQ.out)⟩⟩
          case measure=>simp [intOf]))
      ·obtain ⟨m,rfl⟩:∃ b,m=b+1:=⟨m-1,by omega⟩
       obtain rfl:i1=(m:Int):=by omega
       clear hi1 h0;obtain ⟨ad3,A3,c3,A7,c7,e3,hin,hrin⟩:=HRI.out m (by omega);subst e3;have hbe:=HBD.out m (by omega);have hreg:=hE2.out (m+1);generalize back ((ins.drop (m+1)).map iOf) E=S1 at hbe hreg HA;generalize rd_T47 ins m=x at hbe hin hrin;have HBE:=ak hbe;have HREG:=ak hreg;clear hbe hreg;obtain ⟨q0,q1,q2,q3,q4,q5,q6,q7⟩:=hin.below HS2.out.below;have HRIN:=ak (hrin.below HS2.out.below);have u2:=pw_cell_below HA.out.1 HU2.out;have ux:=pw_cell_below HA.out.1 HX1.out
       obtain ⟨s0,s1,s2,s3,s4,s5,s6,s7,f0,f1,f2,f3,f4,f5,f6,f7⟩:=cells8 HA.out.2;clear f0 f1 f2 f3 f4 f5 f6 f7 hin hrin;have hmi:(m:Int)<ins.length:=by omega
       go_wp2_with fail
       go_region_with (go_at_call 30;refine (ahead_calls x A3 c3 A7 c7 S1 HREG.out _ (HRIN.out.below (below_drew (Below.refl _ wr)))).mono ?_;rintro e w8 ⟨rfl,hb0⟩;have hb:=below_step (below_drew (Below.refl _ wr)) hb0;obtain ⟨r0,r1,r2,r3,r4,r5,r6,r7,f0,f1,f2,f3,f4,f5,f6,f7⟩:=cells8 (at_below HA.out.2 hb);have HB8:=ak hb;clear hb hb0;simp only [setV,cellsV,LiveSet.u64])
       all_goals (
        clear q0 q1 q2 q3 q4 q5 q6 q7 u2 ux s0 s1 s2 s3 s4 s5 s6 s7 r0 r1 r2 r3 r4 r5 r6 r7 f0 f1 f2 f3 f4 f5 f6 f7
        go_wp2_with fail
        go_roundw
        case rel =>
         refine ⟨_,_,_,_,_,_,_,_,_,_,_,_,_,_,_,_,?_,rfl⟩;refine ⟨m,(m:Int)-1,by omega,rfl,by go_num,⟨(below_step HA.out.1 HB8.out).grown (put8_grown _ _ _) (below_step HA.out.1 HB8.out).size (fun k hk=>by cases hk;exact HG6.out),?_⟩⟩;rw [HBE.out];exact put8_at (at_below HA.out.2 HB8.out) _
        case measure=>simp [intOf])
end Go.Proofs.Ytklknkfoafdgpaa.LiveSettled
