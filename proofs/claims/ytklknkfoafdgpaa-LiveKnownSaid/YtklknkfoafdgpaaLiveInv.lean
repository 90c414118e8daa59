import Derived.Test.YtklknkfoafdgpaaLiveAhead
import Derived.Deep.RegionWith
import Derived.Test.YtklknkfoafdgpaaLiveB
namespace Go.Proofs.Ytklknkfoafdgpaa.LiveEnd
set_option maxHeartbeats 8000000
set_option maxRecDepth 100000
open RowKit YtklknkfoafdgpaaW.PrintWords YtklknkfoafdgpaaW.PrintLast YtklknkfoafdgpaaW.PrintMore
open PLiveKnown LiveT LiveB LiveSet LiveAhead
set_option linter.unusedVariables false
set_option linter.unusedSimpArgs false
def WS (w:World) (g n:Nat) (V:Nat→RS):Prop:=∃ cs:Array Value,w.heap[g]? =some (.cells cs 64 (0,0))∧cs.size=n*8∧∀ i,i<n→∀ j,j<8→cs[i*8+j]? =some (u64 (word (V i) j))
theorem ws_below {w w1:World} {g n:Nat} {V:Nat→RS} (h:WS w g n V) (hb:Below w.heap.size w w1):WS w1 g n V:=by
 obtain ⟨cs,h1,h2,h3⟩:=h;exact ⟨cs,(hb.block g (blk_lt h1)).trans h1,h2,h3⟩
theorem ws_grown {w w1:World} {g n:Nat} {V:Nat→RS} {r:Option Nat} (h:WS w g n V) (hg:w.grownBy w1 r) (hne:some g≠r):WS w1 g n V:=by
 obtain ⟨cs,h1,h2,h3⟩:=h;exact ⟨cs,blk_grown h1 hg hne,h2,h3⟩
theorem ws_lt {w:World} {g n:Nat} {V:Nat→RS} (h:WS w g n V):g<w.heap.size:=by
 obtain ⟨cs,h1,h2,h3⟩:=h;exact blk_lt h1
structure CellsAt (w:World) (g o:Nat) (S:RS):Prop where
 c0:w.cell? ⟨g,o,none⟩=some (.int .u64 (word S 0))
 c1:w.cell? ⟨g,o+1,none⟩=some (.int .u64 (word S 1))
 c2:w.cell? ⟨g,o+2,none⟩=some (.int .u64 (word S 2))
 c3:w.cell? ⟨g,o+3,none⟩=some (.int .u64 (word S 3))
 c4:w.cell? ⟨g,o+4,none⟩=some (.int .u64 (word S 4))
 c5:w.cell? ⟨g,o+5,none⟩=some (.int .u64 (word S 5))
 c6:w.cell? ⟨g,o+6,none⟩=some (.int .u64 (word S 6))
 c7:w.cell? ⟨g,o+7,none⟩=some (.int .u64 (word S 7))
theorem ws_cells {w:World} {g n:Nat} {V:Nat→RS} (h:WS w g n V) (i:Nat) (hi:i<n):CellsAt w g (i*8) (V i):=by
 obtain ⟨cs,h1,h2,h3⟩:=h;exact ⟨(blk_cell h1 _).trans (h3 i hi 0 (by omega)),(blk_cell h1 _).trans (h3 i hi 1 (by omega)),(blk_cell h1 _).trans (h3 i hi 2 (by omega)),(blk_cell h1 _).trans (h3 i hi 3 (by omega)),
  (blk_cell h1 _).trans (h3 i hi 4 (by omega)),(blk_cell h1 _).trans (h3 i hi 5 (by omega)),(blk_cell h1 _).trans (h3 i hi 6 (by omega)),(blk_cell h1 _).trans (h3 i hi 7 (by omega))⟩
theorem cells_below {w w1:World} {g o:Nat} {S:RS} (h:CellsAt w g o S) (hb:Below w.heap.size w w1):CellsAt w1 g o S:=
 ⟨pw_cell_below hb h.c0,pw_cell_below hb h.c1,pw_cell_below hb h.c2,pw_cell_below hb h.c3,pw_cell_below hb h.c4,pw_cell_below hb h.c5,pw_cell_below hb h.c6,pw_cell_below hb h.c7⟩
def cells89 (fn rg:Int) (Ab:Option Addr) (n cb gw:Nat):Array Value:= #[.int .i64 fn,.int .i64 rg,.slice Ab n cb,.slice (some ⟨gw,0,none⟩) n n]
structure Flow (w:World) (gf:Nat) (fn rg:Int) (Ab:Option Addr) (cb gw:Nat) (bs:List S43) (V:Nat→RS):Prop where
 blk:w.heap[gf]? =some (.cells (cells89 fn rg Ab bs.length cb gw) 89 (0,0))
 code:Kd.C k43 w Ab bs.length bs
 ws:WS w gw bs.length V
 regs:∀ i,i<bs.length→Regs (V i)
theorem Flow.below {w w1:World} {gf:Nat} {fn rg:Int} {Ab:Option Addr} {cb gw:Nat} {bs:List S43} {V:Nat→RS} (h:Flow w gf fn rg Ab cb gw bs V) (hb:Below w.heap.size w w1):Flow w1 gf fn rg Ab cb gw bs V:=
 ⟨(hb.block gf (blk_lt h.blk)).trans h.blk,Kd.C_below h.code hb,ws_below h.ws hb,h.regs⟩
theorem endd_take (n:Nat) (V:Nat→RS) (l:List Int) (k:Nat) (hk:k<l.length):endd n V (l.take (k+1))=join (endd n V (l.take k)) (if 0≤rd l k∧rd l k<n then V (rd l k).toNat else none'):=by
 have hg:rd l k=l[k]:=by simp [rd,List.getD_eq_getElem?_getD,hk]
 rw [hg,List.take_add_one,List.getElem?_eq_getElem hk]
 funext r
 simp only [endd,join,Option.toList_some,List.any_append,List.any_cons,List.any_nil,Bool.or_false]
 congr 1
 by_cases h:0≤l[k]∧l[k]<n
 ·rw [if_pos h]
  simp [h.1,h.2]
 ·rw [if_neg h];simp only [none']
  by_cases h0:0≤l[k]
  ·have:¬ l[k]<n:=fun h1=>h ⟨h0,h1⟩
   simp [this]
  ·simp [h0]
theorem join_none (S:RS):join S none'=S:=by
 funext r
 simp [join,none']
theorem rd_block {w W:World} {A:Option Addr} {n:Nat} {l:List S43} (hr:Kd.C k43 w A n l) (hb:Below w.heap.size w W) (k:Nat) (hk:k<n):∃ ad A1 c1 A2 c2,A=some ad∧W.cell? (ad.add (k*3))=some (.int .i64 (rd_T43 l k).f0)∧W.cell? ⟨(ad.add (k*3)).block,(ad.add (k*3)).off+1,none⟩=some (.slice A1 (rd_T43 l k).f1.length c1)∧W.cell? ⟨(ad.add (k*3)).block,(ad.add (k*3)).off+2,none⟩=some (.slice A2 (rd_T43 l k).f2.length c2)∧(rd_T43 l k).f1.length≤c1∧Kd.C k47 w A1 (rd_T43 l k).f1.length (rd_T43 l k).f1∧(rd_T43 l k).f2.length≤c2∧(Kd.int .i64).C w A2 (rd_T43 l k).f2.length (rd_T43 l k).f2:=by
 obtain ⟨ad,A1,c1,A2,c2,e,h0,h1,h2,l1,g1,l2,g2⟩:=at_T43 hr (k:Int) (by omega) (by omega);simp only [Int.toNat_natCast] at h0 h1 h2;exact ⟨ad,A1,c1,A2,c2,e,pw_cell_below hb h0,pw_cell_below hb h1,pw_cell_below hb h2,l1,g1,l2,g2⟩
structure EW (w W:World) (a b:Nat) (S:RS):Prop where
 below:Below w.heap.size w W
 sa:At W a none'
 sb:At W b S
 ab:a≠b
 la:w.heap.size≤a
 lb:w.heap.size≤b
theorem EW.next {w W W1:World} {a b:Nat} {S:RS} (h:EW w W a b S) (hb:Below W.heap.size W W1):EW w W1 a b S:=⟨below_step h.below hb,at_below h.sa hb,at_below h.sb hb,h.ab,h.la,h.lb⟩
theorem EW.put {w W W1:World} {a b:Nat} {S T:RS} (h:EW w W a b S) (hA:At W1 b T) (hg:W.grownBy W1 (some b)):EW w W1 a b T:=
 ⟨h.below.grown hg h.below.size (fun k hk=>by cases hk;exact h.lb),at_grown h.sa hg (by intro he;cases he;exact h.ab rfl),hA,h.ab,h.la,h.lb⟩
theorem end_calls (gf:Nat) (fn rg:Int) (Ab:Option Addr) (cb gw:Nat) (bs:List S43) (V:Nat→RS) (b:Nat) (hb:b<bs.length) (w:World) (h:Flow w gf fn rg Ab cb gw bs V) :
  Calls Try.prog 29 #[.pointer (some ⟨gf,0,none⟩),.int .i64 b] w fun e w'=>e= .returned (setV (endd bs.length V (rd_T43 bs b).f2))∧Below w.heap.size w w':=by
 obtain ⟨ad,A1,c1,A2,c2,e,hx0,hx1,hx2,l1,g1,l2,g2⟩:=rd_block h.code (Below.refl _ w) b hb;subst e;have u0:w.cell? ⟨gf,0,none⟩=some (.int .i64 fn):=(blk_cell h.blk 0).trans rfl;have u2:w.cell? ⟨gf,2,none⟩=some (.slice (some ad) bs.length cb):=(blk_cell h.blk 2).trans rfl;have u3:w.cell? ⟨gf,3,none⟩=some (.slice (some ⟨gw,0,none⟩) bs.length bs.length):=(blk_cell h.blk 3).trans rfl;have HF:=ak h;have HI:=ak g1;have HN:=ak g2;have U3:=ak u3;have hbi:(b:Int)<bs.length:=by omega
 have hmxn:(rd_T43 bs b).f2.length≤9223372036854775807:=Kd.C_max g2;clear h g1 g2 l1 l2 hx0 hx1;generalize (rd_T43 bs b).f2=nx at hx2 HN hmxn;generalize hnb:bs.length=nb at *;have HNB:=ak hnb;clear hnb
 go_enter Try.func29,Try.ntmps29
 go_wp2_with (first
  |((with_reducible refine gate_dst (N:=4) rfl ?_);refine setAlloc_event rfl rfl rfl ?_;intro ga w1 hga hA1 hb1;have HG1:=ak hga;have HA1:=ak hA1;have HB1:=ak hb1;replace u0:=pw_cell_below hb1 u0;replace u2:=pw_cell_below hb1 u2;replace u3:=pw_cell_below hb1 u3;replace hx2:=pw_cell_below hb1 hx2;clear hga hA1 hb1)
  |((with_reducible refine gate_dst (N:=5) rfl ?_);refine setAlloc_event rfl rfl rfl ?_;intro gb w2 hgb hA2 hb2;have HG2:=ak hgb;have HA2:=ak hA2;have HB2:=ak hb2;replace u0:=pw_cell_below hb2 u0;replace u2:=pw_cell_below hb2 u2;replace u3:=pw_cell_below hb2 u3;replace hx2:=pw_cell_below hb2 hx2;clear hgb hA2 hb2))
 have H0:Aside0 (EW w w2 ga gb (endd nb V (nx.take 0))):=⟨by
  have h1:ga<w1.heap.size:=blk_lt HA1.out;exact ⟨below_step HB1.out HB2.out,at_below HA1.out HB2.out,HA2.out,by have:=HG2.out;omega,HG1.out,Nat.le_trans HB1.out.size HG2.out⟩⟩
 clear HG1 HG2 HA1 HA2 HB1 HB2 u0 u2 u3 hx2
 go_loopw [18] (fun i wr=>∃ (k:Nat),k≤nx.length∧i= .int .i64 k∧Aside0 (EW w wr ga gb (endd nb V (nx.take k)))) (fun i _=>nx.length-(intOf i).toNat)
 case atStart=>exact ⟨0,by omega,rfl,H0⟩
 case round =>
  clear H0;obtain ⟨k,hk,rfl,HE⟩:=hrel
  by_cases hlt:k<nx.length
  ·obtain ⟨ad2,e2,hx⟩:=Kd.at_int HN.out (k:Int) (by omega) (by omega);simp only [Int.toNat_natCast] at hx;subst e2;replace hx:=pw_cell_below HE.out.below hx;have HT:=ak (endd_take nb V nx k hlt);generalize rd nx k=y at hx HT
   by_cases h0:0≤y
   ·have hd0:decide (0≤y)=true:=decide_eq_true h0;have u3:=pw_cell_below HE.out.below U3.out
    by_cases h1:y<nb
    ·obtain ⟨m,rfl⟩:∃ m:Nat,y=m:=⟨y.toNat,by omega⟩
     have hd1:decide ((m:Int)<nb)=true:=decide_eq_true h1;have hm:m<nb:=by omega
     rw [if_pos ⟨h0,h1⟩,Int.toNat_natCast] at HT;have HM:Aside0 (m<bs.length):=⟨by rw [HNB.out];exact hm⟩
     obtain ⟨a0,a1,a2,a3,a4,a5,a6,a7⟩:=cells_below (ws_cells HF.out.ws m HM.out) HE.out.below;obtain ⟨s0,s1,s2,s3,s4,s5,s6,s7,f0,f1,f2,f3,f4,f5,f6,f7⟩:=cells8 HE.out.sb;clear f0 f1 f2 f3 f4 f5 f6 f7
     go_wp2_with fail
     go_region_with (go_at_call 52;refine (with_calls (endd nb V (nx.take k)) (V m) (HF.out.regs m HM.out) _).mono ?_;rintro e w7 ⟨rfl,hb0⟩;have hb:=below_step (below_drew (Below.refl _ wr)) hb0;obtain ⟨r0,r1,r2,r3,r4,r5,r6,r7,f0,f1,f2,f3,f4,f5,f6,f7⟩:=cells8 (at_below HE.out.sb hb);have HBD:=ak hb;clear hb hb0;simp only [setV,cellsV,u64])
     all_goals (
      have HP:Aside0 (EW w (put8 w7 gb (join (endd nb V (nx.take k)) (V m))) ga gb (endd nb V (nx.take (k+1)))):=(⟨by
       rw [HT.out];exact HE.out.put (put8_at (at_below HE.out.sb HBD.out) _) (grown_trans (grown_of_below HBD.out _) (put8_grown _ _ _))⟩)
      clear a0 a1 a2 a3 a4 a5 a6 a7 s0 s1 s2 s3 s4 s5 s6 s7 r0 r1 r2 r3 r4 r5 r6 r7 f0 f1 f2 f3 f4 f5 f6 f7 HE u3 hx
      go_wp2_with fail
      go_roundw
      case rel=>exact ⟨k+1,by omega,by go_num,HP⟩
      case measure=>simp [intOf];omega)
    ·have hd1:decide (y<(nb:Int))=false:=decide_eq_false h1;rw [if_neg (fun hh=>h1 hh.2),join_none] at HT
     go_wp2_with fail
     go_roundw
     case rel=>exact ⟨k+1,by omega,by go_num,⟨by rw [HT.out];exact HE.out⟩⟩
     case measure=>simp [intOf];omega
   ·have hd0:decide (0≤y)=false:=decide_eq_false h0;rw [if_neg (fun hh=>h0 hh.1),join_none] at HT
    go_wp2_with fail
    go_roundw
    case rel=>exact ⟨k+1,by omega,by go_num,⟨by rw [HT.out];exact HE.out⟩⟩
    case measure=>simp [intOf];omega
  ·obtain rfl:k=nx.length:=by omega
   rw [List.take_length] at HE
   go_wp2_with (first
    |(refine setLoad_event rfl rfl rfl rfl HE.out.sb ?_)
    |(refine setStore_event rfl rfl rfl rfl rfl HE.out.sa ?_;intro w5 hA5 hg5;have HA5:=ak hA5;have HB5:=ak (HE.out.below.grown hg5 HE.out.below.size (fun k hk=>by cases hk;exact HE.out.la));clear hA5 hg5))
   refine bodyPost_ret (results_cell_row rfl _ _ ga 64 (cellsV _) (0,0) _ rfl HA5.out Try.underlying64 rfl (by kernel_rfl)) rfl ?_;exact ⟨rfl,HB5.out⟩
end Go.Proofs.Ytklknkfoafdgpaa.LiveEnd
namespace Go.Proofs.Ytklknkfoafdgpaa.LiveInv
open LiveT LiveB
set_option linter.unusedVariables false
set_option linter.unusedSimpArgs false
structure Inv (c:List Blk) (V:Nat→RS):Prop where
 up:∀ b B,c[b]? =some B→Le (V b) (back B.1 (endd c.length V B.2))
 low:∀ P,Pre c P→∀ b,b<c.length→Le (V b) (P b)
 regs:∀ b,b<c.length→Regs (V b)
theorem Inv.start (c:List Blk):Inv c (fun _=>none'):=⟨fun _ _ _ r h=>by simp [none'] at h,fun _ _ _ _ r h=>by simp [none'] at h,fun _ _=>none_regs⟩
def put (V:Nat→RS) (b:Nat) (S:RS):Nat→RS:=fun i=>if i=b then S else V i
theorem Inv.put {c:List Blk} {V:Nat→RS} (h:Inv c V) {b:Nat} {B:Blk} (hB:c[b]? =some B):Inv c (put V b (back B.1 (endd c.length V B.2)))∧(∀ i,i<c.length→Le (V i) (LiveInv.put V b (back B.1 (endd c.length V B.2)) i)):=by
 have hb:b<c.length:=(List.getElem?_eq_some_iff.mp hB).1;have hle:∀ i,i<c.length→Le (V i) (LiveInv.put V b (back B.1 (endd c.length V B.2)) i):=by
  intro i hi;simp only [LiveInv.put]
  split
  ·rename_i he
   subst he;exact h.up i B hB
  ·exact Le.rfl'
 refine ⟨⟨?_,?_,?_⟩,hle⟩
 ·intro i B' hB';have hm:=back_mono B'.1 (endd_mono B'.2 hle)
  by_cases he:i=b
  ·subst he;rw [hB] at hB';cases hB';simp only [LiveInv.put,if_pos];exact hm
  ·simp only [LiveInv.put,if_neg he];exact Le.trans' (h.up i B' hB') hm
 ·intro P hP i hi
  by_cases he:i=b
  ·subst he;simp only [LiveInv.put,if_pos];exact Le.trans' (back_mono B.1 (endd_mono B.2 (h.low P hP))) (hP i B hB)
  ·simp only [LiveInv.put,if_neg he];exact h.low P hP i hi
 ·intro i hi
  by_cases he:i=b
  ·subst he;simp only [LiveInv.put,if_pos];exact back_regs B.1 (endd_regs B.2 h.regs)
  ·simp only [LiveInv.put,if_neg he];exact h.regs i hi
theorem Inv.done {c:List Blk} {V:Nat→RS} (h:Inv c V) (hf:∀ b B,c[b]? =some B→V b=back B.1 (endd c.length V B.2)):Lfp c V:=⟨hf,h.low⟩
def cnt1 (S:RS):Nat→Nat
 |0=>0
 |k+1=>cnt1 S k+(if S (k:Int)=true then 1 else 0)
def cnt (V:Nat→RS):Nat→Nat
 |0=>0
 |n+1=>cnt V n+cnt1 (V n) 512
theorem cnt1_le (S:RS) (k:Nat):cnt1 S k≤k:=by
 induction k with
 |zero=>exact Nat.le_refl _
 |succ k ih=>simp only [cnt1];split<;>omega
theorem cnt1_mono {S T:RS} (h:Le S T) (k:Nat):cnt1 S k≤cnt1 T k:=by
 induction k with
 |zero=>exact Nat.le_refl _
 |succ k ih =>
  simp only [cnt1]
  by_cases hs:S (k:Int)=true
  ·rw [if_pos hs,if_pos (h _ hs)];omega
  ·rw [if_neg hs];omega
theorem cnt1_lt {S T:RS} (h:Le S T) (k r:Nat) (hr:r<k) (hs:S (r:Int)=false) (ht:T (r:Int)=true):cnt1 S k<cnt1 T k:=by
 induction k with
 |zero=>omega
 |succ k ih =>
  simp only [cnt1]
  by_cases he:r=k
  ·subst he;rw [if_pos ht,hs];have:=cnt1_mono h r
   simp;omega
  ·have:=ih (by omega)
   by_cases hs:S (k:Int)=true
   ·rw [if_pos hs,if_pos (h _ hs)];omega
   ·rw [if_neg hs];omega
theorem cnt_le (V:Nat→RS) (n:Nat):cnt V n≤n*512:=by
 induction n with
 |zero=>exact Nat.le_refl _
 |succ n ih=>simp only [cnt];have:=cnt1_le (V n) 512;omega
theorem cnt_mono {V W:Nat→RS} (n:Nat) (h:∀ i,i<n→Le (V i) (W i)):cnt V n≤cnt W n:=by
 induction n with
 |zero=>exact Nat.le_refl _
 |succ n ih =>
  simp only [cnt];have h1:=ih (fun i hi=>h i (by omega));have h2:=cnt1_mono (h n (by omega)) 512;omega
theorem cnt_lt {V W:Nat→RS} (n:Nat) (h:∀ i,i<n→Le (V i) (W i)) (b:Nat) (hb:b<n) (hR:Regs (W b)) (hne:V b≠W b):cnt V n<cnt W n:=by
 have hex:∃ r:Nat,r<512∧V b (r:Int)=false∧W b (r:Int)=true:=by
  apply Classical.byContradiction;intro hno;apply hne;apply le_antisymm' (h b hb);intro r hr;have h1:=hR r hr;simp only [inR,Bool.and_eq_true,decide_eq_true_eq] at h1;cases hv:V b r with
  |true=>rfl
  |false=>exact absurd ⟨r.toNat,by omega,by rw [show (r.toNat:Int)=r by omega];exact hv,by rw [show (r.toNat:Int)=r by omega];exact hr⟩ hno
 obtain ⟨r,hr,h0,h1⟩:=hex
 induction n with
 |zero=>omega
 |succ n ih =>
  simp only [cnt]
  by_cases he:b=n
  ·subst he;have h2:=cnt_mono b (fun i hi=>h i (by omega));have h3:=cnt1_lt (h b hb) 512 r hr h0 h1;omega
  ·have h2:=ih (fun i hi=>h i (by omega)) (by omega);have h3:=cnt1_mono (h n (by omega)) 512;omega
end Go.Proofs.Ytklknkfoafdgpaa.LiveInv
