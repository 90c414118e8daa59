import Derived.Test.YtklknkfoafdgpaaFam
import Derived.Test.YtklknkfoafdgpaaPLiveKnownx1
import Derived.Deep.RegionWith
import Derived.Test.YtklknkfoafdgpaaLiveHandP
namespace Go.Proofs.Ytklknkfoafdgpaa.Fam
set_option maxHeartbeats 8000000
set_option maxRecDepth 100000
open RowKit YtklknkfoafdgpaaW.PrintWords YtklknkfoafdgpaaW.PrintLast YtklknkfoafdgpaaW.PrintMore Grow
set_option linter.unusedVariables false
set_option linter.unusedSimpArgs false
theorem infoA32:(Try.prog.info? 25).map (fun i=>(i.zero,i.size,i.bytes))=some (some (.slice none 0 0),1,24):=by kernel_rfl
theorem infoA1:(Try.prog.info? 3).map (fun i=>(i.zero,i.size,i.bytes))=some (some (.int .i64 0),1,8):=by kernel_rfl
theorem at_kh {W:World} {A:Option Addr} {n:Nat} {l:List HS} (h:kh.C W A n l) (i:Nat) (hi:i<n) (x:HS) (hx:l[i]? =some x):∃ ad,A=some ad∧W.cell? (ad.add i)=some (hv x):=by
 obtain ⟨ad,c,e,_,hK,hc0⟩:=Kd.C_get h ((none,0,0):HS) (i:Int) (by omega) (by omega);have hc:∀ j u,c[j]? =some u→W.cell? (ad.add (i*1+j))=some u:=hc0;have hgx:l.getD (i:Int).toNat (none,0,0)=x:=by simp [List.getD_eq_getElem?_getD,hx]
 rw [hgx] at hK;have hKc:c=[hv x]:=hK;subst hKc;exact ⟨ad,e,by have hq:=hc 0 _ rfl;rwa [Nat.mul_one,Nat.add_zero] at hq⟩
def marki64 (k i:Nat):Int:=1000003*((k:Int)+1)+i
def Told (w0 w:World) (vs:Nat→HS) (n:Nat) (e:Ending) (w':World):Prop:=e= .returned (.bool true)∧Below w0.heap.size w0 w'∧Kept w w' (Own vs n)
theorem apartInts_calls (A:Option Addr) (n c:Nat) (vs:Nat→HS) (len:Nat→Nat) (xs:Nat→List Int) (w0 w:World) (hG:Given (Kd.int .i64) 3 w0 w vs n xs) (hl:∀ j,j<n→(xs j).length=len j) (hls:∀ W',Kept w W' (Own vs n)→kh.C W' A n ((List.range n).map vs))
  (hsz:∀ j,j<n→(len j+64)*8≤140737488355328) (hnsz:n*24≤140737488355328) :
  Calls Try.prog 14 #[.slice A n c] w (Told w0 w vs n):=by
 obtain ⟨i0,hi0,hi1,hi2,hi3⟩:=info_parts infoA32;obtain ⟨j0,hj0,hj1,hj2,hj3⟩:=info_parts infoA1;have HG:=ak hG;have HL:=ak hl;have HO:=ak hls;have HZ:=ak hsz;have H1:=ak (P1.start (mk:=marki64) hG hl);have hw0:w0.heap.size≤w.heap.size:=hG.below.size;have HVL:Aside0 (∀ j,j<n→∃ Aj cj,vs j=(Aj,len j,cj)):=⟨fun j hj=>by
  have h1:=(Kd.R_reads' (A:=(vs j).1) (n:=(vs j).2.1) (c:=(vs j).2.2) (hG.rows j hj)).1;rw [hl j hj] at h1;exact ⟨(vs j).1,(vs j).2.2,by rw [←h1]⟩⟩
 have HRD:Aside0 (∀ W' k,Kept w W' (Own vs n)→k<n→∃ ad,A=some ad∧W'.cell? (ad.add k)=some (hv (vs k))):=⟨fun W' k hk hn=>at_kh (hls W' hk) k hn (vs k) (by simp [hn])⟩
 clear hG hl hls hsz
 go_enter Try.func14,Try.ntmps14
 go_wp2_with fail
 go_loopw [3] (fun k wr=>∃ (i:Nat) (ys:Nat→List Int),i≤n∧k= .int .i64 i∧Aside0 (P1 (Kd.int .i64) 3 w0 w vs n len marki64 wr i ys)) (fun k _=>n-(intOf k).toNat)
 case atStart=>exact ⟨0,xs,by omega,rfl,H1⟩
 case round =>
  clear H1;obtain ⟨k,ys,hk,rfl,HS⟩:=hrel
  by_cases hlt:k<n
  ·have hz:=HZ.out k hlt;obtain ⟨Ak,ck,hvk⟩:=HVL.out k hlt;obtain ⟨ad,rfl,_⟩:=HRD.out wr k HS.out.kept hlt
   go_wp2_with fail
   go_loopw [4] (fun i wi=>∃ (m:Nat) (ys:Nat→List Int),m≤len k∧i= .int .i64 m∧Aside0 (P1 (Kd.int .i64) 3 w0 w vs n len marki64 wi k ys)∧Aside0 (Pre marki64 k m (ys k))) (fun i _=>len k-(intOf i).toNat)
   case atStart=>exact ⟨0,ys,by omega,rfl,HS,⟨pre_zero _⟩⟩
   case round =>
    clear HS;obtain ⟨m,ys,hm,rfl,HS,HP⟩:=hrel;obtain ⟨ad2,h2,h0⟩:=HRD.out wr k HS.out.kept hlt;cases h2;rw [hvk] at h0;simp only [hv] at h0
    by_cases hml:m<len k
    ·have hR:=HS.out.rows k hlt;have hyl:=HS.out.size k hlt;rw [hvk] at hR;simp only [hv] at hR;obtain ⟨g,cap,he,hge,_,_⟩:=Kd.R_form hR (by omega);injection he with he1 he2 he3;subst he1;subst he3;obtain ⟨hc0,hf0⟩:=Kd.R_celln (enc:=Value.int .i64) (h1:=fun _=>rfl) (0:Int) hR (m:Int) (by omega) (by omega);simp only [Int.toNat_natCast] at hc0 hf0;have hput:=Kd.R_putg (enc:=Value.int .i64) (h1:=fun _=>rfl) hR (m:Int) (marki64 k m);simp only [Int.toNat_natCast] at hput;have HPut:=ak hput;have HV:=ak hvk;have hyl2:=ak hyl;clear hput hR he2 hyl hvk
     go_wp2_with fail
     go_roundw
     case rel =>
      refine ⟨m+1,_,by omega,by go_num,⟨HS.out.store HG.out hlt (i:=m) (x':=marki64 k m) ?_ (below_set HS.out.below hge) ?_⟩,⟨?_⟩⟩
      ·rw [HV.out];exact HPut.out.1
      ·rw [HV.out];exact HPut.out.2
      ·simp only [if_pos];exact pre_set HP.out (by rw [hyl2.out];exact hml)
     case measure=>simp [intOf];omega
    ·obtain rfl:m=len k:=by omega
     clear hvk
     go_wp2
     go_roundw
     case rel=>exact ⟨k+1,ys,by omega,by go_num,⟨HS.out.next hlt HP.out⟩⟩
     case measure=>simp [intOf];omega
  ·obtain rfl:n=k:=by omega
   have H2:=ak (P2.start (gs:=fun _=>(none,0,0)) HS.out);have H3:=ak (Outer.start (et:=25) (w0:=w0) (w:=w) (W:=wr) (gs:=fun _=>(none,0,0)));clear HS
   go_wp2_with fail
   go_loopw [5,6] (fun q i wr=>∃ (k:Nat) (gs:Nat→HS) (u:Value),k≤n∧u=q∧i= .int .i64 k∧Aside0 (P2 (Kd.int .i64) 3 w0 w vs n len marki64 wr k k gs)∧Aside0 (Outer 25 w0 w wr k gs u)) (fun _ i _=>n-(intOf i).toNat)
   case atStart=>exact ⟨0,_,_,by omega,rfl,rfl,H2,H3⟩
   case round =>
    clear H2 H3;obtain ⟨k,gs,u,hk,rfl,rfl,HS,HU⟩:=hrel
    by_cases hlt:k<n
    ·obtain ⟨ad,rfl,h0⟩:=HRD.out _ k HS.out.kept hlt;have hz:=HZ.out k hlt;obtain ⟨Ak,ck,hvk⟩:=HVL.out k hlt;have HV:=ak hvk;rw [hvk] at h0;simp only [hv] at h0;have H3:=ak (P3.start HS.out HU.out hlt);rw [hvk] at H3;simp only [hv] at H3;clear hvk
     go_wp2_with fail
     clear h0
     go_loopw [7,8] (fun q i wi=>∃ (m:Nat) (v:Value),m≤64∧v=q∧i= .int .i64 m∧Aside0 (P3 (Kd.int .i64) 3 25 w0 w vs n len marki64 wi k m gs u v)) (fun _ i _=>64-(intOf i).toNat)
     case atStart=>exact ⟨0,_,by omega,rfl,rfl,H3⟩
     case round =>
      clear H3 HS HU;obtain ⟨m,v,hm,rfl,rfl,HS⟩:=hrel
      by_cases hm64:m<64
      ·obtain ⟨ad2,h2,h0⟩:=HRD.out _ k HS.out.fam.kept hlt;cases h2;rw [HV.out] at h0;simp only [hv] at h0;have hw1:w0.heap.size≤wr.heap.size:=HS.out.fam.below.size;have hsv:marki64 k (len k+m)=1000003*((k:Int)+1)+(len k:Int)+(m:Int):=by simp only [marki64];push_cast;omega
       go_wp2_with (at_builtin;refine append_keep (Kd.int .i64) (w0:=w0) w0.heap.size rfl (.tmp 52) (.tmp 64) 25 3 (.int .i64 0) 8 rfl Try.underlying25 infoA1 rfl Nat.one_pos (by decide) v (mks marki64 k (len k+m)) (marki64 k (len k+m)) [.int .i64 (1000003*((k:Int)+1)+(len k:Int)+(m:Int))] (fun b=>w0.heap.size≤b) (fun _=>False) rfl rfl (by rw [hsv];rfl) (fun _ hk=>hk.elim) (fun b hb=>Nat.le_trans hw1 hb) (Kd.R_reok rfl HS.out.row (fun b hb=>Kd.R_base HS.out.row b hb)) HS.out.fam.below hw1 (by rw [mks_length];omega) ?_;intro v1 w1 ho hb hg hat;have HS1:=ak (HS.out.grow rfl Nat.one_pos HG.out HL.out hlt ho hb hg hat);clear ho hb hg hat)
       go_roundw
       case rel=>exact ⟨m+1,_,by omega,rfl,by go_num,HS1⟩
       case measure=>simp [intOf];omega
      ·obtain rfl:m=64:=by omega
       obtain ⟨Av,cv,rfl⟩:=Kd.R_slice HS.out.row;have hw1:w0.heap.size≤wr.heap.size:=HS.out.fam.below.size
       go_wp2_with (at_builtin;refine Kd.R_append kh (w0:=w0) w0.heap.size rfl (.tmp 66) (.tmp 68) 31 25 (.slice none 0 0) 24 rfl Try.underlying31 infoA32 rfl Nat.one_pos (by decide) u ((List.range k).map gs) (Av,_,cv) [.slice Av _ cv] (fun b=>w0.heap.size≤b) (fun _=>False) rfl rfl rfl (fun _ hk=>hk.elim) (fun b hb=>Nat.le_trans hw1 hb) (Kd.R_reok rfl HS.out.outer (fun b hb=>Kd.R_base HS.out.outer b hb)) HS.out.fam.below hw1 (by simp;omega) ?_;intro u1 w1 ho hb hg hat;have HN:=HS.out.done rfl Nat.one_pos HG.out HL.out hlt (by decide) ho hb hg hat;have HN1:=ak HN.1;have HN2:=ak HN.2;clear HN ho hb hg hat)
       go_roundw
       case rel=>exact ⟨k+1,_,_,by omega,rfl,by go_num,HN1,HN2⟩
       case measure=>simp [intOf];omega
    ·obtain rfl:n=k:=by omega
     obtain ⟨Au,cu,rfl⟩:=Kd.R_slice HU.out;have hCu:=(Kd.R_reads' HU.out).2.2;rw [List.length_map,List.length_range] at hCu ⊢;have HRU:Aside0 (∀ k,k<n→∃ ad c2,Au=some ad∧wr.cell? (ad.add k)=some (.slice (gs k).1 (len k+64) c2)):=⟨fun k hn=>by
      obtain ⟨ad,e,hc⟩:=at_kh hCu k hn (gs k) (by simp [hn]);exact ⟨ad,(gs k).2.2,e,by rw [hc];simp only [hv];rw [(HS.out.news k hn).1]⟩⟩
     have hrd:∀ (k m M:Nat),m<M→rd (mks marki64 k M) (m:Int)=marki64 k m:=fun k m M hm=>by simp [rd,List.getD_eq_getElem?_getD,mks_get hm]
     have HN:Aside0 (∀ k m,k<n→m<len k+64→∃ ad,(gs k).1=some ad∧wr.cell? (ad.add m)=some (.int .i64 (marki64 k m))):=⟨fun k m hn hm=>by
      obtain ⟨ad,e,hc⟩:=Kd.at_int (Kd.F_now (HS.out.news k hn).2) (m:Int) (by omega) (by omega);exact ⟨ad,e,by rw [hrd k m _ hm] at hc;exact hc⟩⟩
     have HD:Aside0 (∀ k m,k<n→m<len k→∃ ad,(vs k).1=some ad∧wr.cell? (ad.add m)=some (.int .i64 (marki64 k m))):=⟨fun k m hn hm=>by
      obtain ⟨ad,e,hc⟩:=Kd.at_int (Kd.F_now (HS.out.olds k hn)) (m:Int) (by omega) (by omega);exact ⟨ad,e,by rw [hrd k m _ hm] at hc;exact hc⟩⟩
     have HEnd:Aside0 (Below w0.heap.size w0 wr∧Kept w wr (Own vs n)):=⟨HS.out.below,HS.out.kept⟩
     clear hCu hrd HS HU
     go_wp2_with fail
     go_loop [9] (fun i=>∃ k:Nat,k≤n∧i= .int .i64 k) (fun i=>n-(intOf i).toNat)
     case atStart=>exact ⟨0,by omega,rfl⟩
     case round =>
      obtain ⟨k,hk,rfl⟩:=hrel
      by_cases hlt:k<n
      ·have hz:=HZ.out k hlt;obtain ⟨ad,rfl,h0⟩:=HRD.out wr k HEnd.out.2 hlt;obtain ⟨au,c2,rfl,h1⟩:=HRU.out k hlt;obtain ⟨Ak,ck,hvk⟩:=HVL.out k hlt;have HV:=ak hvk;rw [hvk] at h0;simp only [hv] at h0;clear hvk
       go_wp2_with fail
       go_loop [10] (fun i=>∃ m:Nat,m≤len k+64∧i= .int .i64 m) (fun i=>len k+64-(intOf i).toNat)
       case atStart=>exact ⟨0,by omega,rfl⟩
       case round =>
        obtain ⟨m,hm,rfl⟩:=hrel
        by_cases hml:m<len k+64
        ·obtain ⟨a1,e1,g1⟩:=HN.out k m hlt hml;rw [e1] at h1;simp only [marki64] at g1
         by_cases hmo:m<len k
         ·obtain ⟨a2,e2,g2⟩:=HD.out k m hlt hmo;rw [HV.out] at e2;simp only at e2;subst e2;simp only [marki64] at g2;clear e1
          go_wp2_with fail
          go_round
          case rel=>exact ⟨m+1,by omega,by go_num⟩
          case measure=>simp [intOf];omega
         ·clear e1
          go_wp2_with fail
          go_round
          case rel=>exact ⟨m+1,by omega,by go_num⟩
          case measure=>simp [intOf];omega
        ·go_wp2
         go_round
         case rel=>exact ⟨k+1,by omega,by go_num⟩
         case measure=>simp [intOf];omega
      ·go_wp2
       go_ret
       exact ⟨rfl,HEnd.out.1,HEnd.out.2⟩
end Go.Proofs.Ytklknkfoafdgpaa.Fam
namespace Go.Proofs.Ytklknkfoafdgpaa.LiveRefA
set_option maxHeartbeats 8000000
set_option maxRecDepth 100000
open RowKit YtklknkfoafdgpaaW.PrintWords YtklknkfoafdgpaaW.PrintLast YtklknkfoafdgpaaW.PrintMore
open PLiveKnown LiveT LiveB LiveInv LiveSet LiveAhead LiveEnd LiveSettled LiveCopied LiveAft LiveRunP LiveSame LiveFit LiveEvt LiveAsked LiveNoth LiveFindP LiveFindQ LiveFind LiveRefP
set_option linter.unusedVariables false
set_option linter.unusedSimpArgs false
theorem rafter_main (fn rg:Int) (Ab:Option Addr) (cb:Nat) (bs:List S43) (V:Nat→RS) (b i:Nat) (w:World) (hC:Kd.C k43 w Ab bs.length bs) (hcb:bs.length≤cb) (hf:FitC bs) (hV:Lfp (codeOf bs) V) (hb:b<bs.length) (hi:i<(rd_T43 bs b).f1.length) :
  Calls Try.prog 9 #[.agg #[.int .i64 fn,.int .i64 rg,.slice Ab bs.length cb],.int .i64 b,.int .i64 i] w fun e w'=>∃ v,e= .returned v∧Kd.R (Kd.int .i64) 3 w' w.heap.size (fun _=>True) v (regsTo (behind bs V b i) 512)∧Below w.heap.size w w':=by
 have HC:=ak hC;have HCB:=ak hcb;have HFT:=ak hf;have HV:=ak hV;obtain ⟨ad,A1,c1,A2,c2,e,hx0,hx1,hx2,l1,hg1,l2,hg2⟩:=rd_block hC (Below.refl _ w) b hb;subst e;have hmx:(rd_T43 bs b).f1.length≤9223372036854775807:=Kd.C_max hg1;have hb0:decide ((b:Int)<0)=false:=decide_eq_false (by omega);have hi0:decide ((i:Int)<0)=false:=decide_eq_false (by omega);have hb1:decide ((bs.length:Int)≤b)=false:=decide_eq_false (by omega);have hi1:decide (((rd_T43 bs b).f1.length:Int)≤i)=false:=decide_eq_false (by omega)
 have hbi:(b:Int)<bs.length:=by omega
 have HBL:=ak hb;have HIN:Aside0 (i+1≤(insOf bs b).length):=⟨hi⟩
 have HRO:Aside0 (rowsOf bs b=(rd_T43 bs b).f1.length+1):=⟨rfl⟩
 have HWA:Aside0 (want bs V b (i+1)=behind bs V b i):=⟨rfl⟩
 generalize behind bs V b i=S at HWA ⊢;have hL1:(i:Int)+1<((rd_T43 bs b).f1.length:Int)+1:=by omega
 have hL2:(i:Int)<((rd_T43 bs b).f1.length:Int):=by omega
 have hL5:0≤(i:Int)+1:=by omega
 have hti:((i:Int)+1).toNat=i+1:=by omega
 generalize (rd_T43 bs b).f1.length=n1 at *;have HI:=ak hi;clear hC hcb hf hV hx0 hx2 l1 l2 hg1 hg2 hb hi
 go_enter Try.func9,Try.ntmps9
 go_wp2_with (first
  |((with_reducible refine gate_dst (N:=3) rfl ?_);refine zero_event 24 #[.int .i64 fn,.int .i64 rg,.slice (some ad) bs.length cb] rfl rfl qb ?_;intro g1 w1 hg1 hA1 hb1;have HB1:=ak hb1;have u0:w1.cell? ⟨g1,0,none⟩=some (.int .i64 fn):=(qk hA1 0);have u1:w1.cell? ⟨g1,1,none⟩=some (.int .i64 rg):=(qk hA1 1);have u2:w1.cell? ⟨g1,2,none⟩=some (.slice (some ad) bs.length cb):=(qk hA1 2);replace hx1:=pw_cell_below hb1 hx1;clear hg1 hA1 hb1)
  |(go_at_call 26;refine (find_calls fn rg (some ad) cb bs V _ (Kd.C_below HC.out HB1.out) HCB.out HFT.out HV.out).mono ?_;rintro e w2 ⟨v,vs,H,f,rfl,hw3,hfw,hb2⟩;have hq:=W3.rd hw3 b (i+1) HBL.out (by rw [HRO.out];have:=HI.out;omega);obtain ⟨ad3,c3,ab,cb',hv,hc3,hvb,hlb,k1,k2,kS⟩:=hq;subst hv;rw [HRO.out] at k1;have HF:=ak hfw;have HW:=ak hw3;have HB2:=ak (below_step HB1.out hb2);rw [hfw b (i+1) HBL.out HIN.out,HWA.out] at kS;have HKS:=ak kS;clear hw3 hfw hb2 hc3 hvb hlb kS u0 u1 u2 hx1))
 have HK1:=ak k1;have HK2:=ak k2;clear k1 k2 hb0 hi0 hb1 hi1
 (try (rename_i hq1 hq2;clear hq1 hq2))
 have HR0:Aside0 (Kd.R (Kd.int .i64) 3 w2 w2.heap.size (fun _=>True) (.slice none 0 0) (regsTo S 0)):=⟨Kd.R_nil _ _ _ _ _⟩
 go_loopw [8,9] (fun v8 v9 wi=>∃ (k:Nat),k≤512∧v9= .int .i64 k∧Aside0 (Below w2.heap.size w2 wi)∧Aside0 (Kd.R (Kd.int .i64) 3 wi w2.heap.size (fun _=>True) v8 (regsTo S k))) (fun _ v9 _=>512-(intOf v9).toNat)
 case atStart=>exact ⟨0,by omega,rfl,⟨Below.refl _ _⟩,HR0⟩
 case round =>
  clear HR0;obtain ⟨k,hk,rfl,HB,HR⟩:=hrel
  by_cases hlt:k<512
  ·obtain ⟨t,ht⟩:∃ t,S (k:Int)=t:=⟨_,rfl⟩
   have HT:=ak ht;have HSU:=ak (regsTo_succ S k);have hlen:=ak (regsTo_length S k);have k1:=pw_cell_below HB.out HK1.out;have k2:wr.cell? ⟨ab.block,ab.off+(i+1),none⟩=some (.slice (some ⟨H b (i+1),0,none⟩) 512 512):=pw_cell_below HB.out HK2.out;have k3:=ks_cell (ks_below HKS.out HB.out) k hlt;rw [ht] at k3;clear ht;cases t
   ·go_wp2_with fail
    go_roundw
    case rel=>exact ⟨k+1,by omega,by go_num,HB,⟨by rw [HSU.out,if_neg (by rw [HT.out];decide),List.append_nil];exact HR.out⟩⟩
    case measure=>simp [intOf];omega
   ·go_wp2_with (first
     |(at_builtin;refine Kd.R_append (Kd.int .i64) (w0:=w2) w2.heap.size rfl (.tmp 51) (.tmp 53) 25 3 (.int .i64 0) 8 rfl Try.underlying25 infoI rfl (by decide) (by omega) _ (regsTo S k) (k:Int) [.int .i64 k] (fun _=>True) (fun _=>False) rfl rfl rfl (fun _ hk=>hk.elim) (fun _ _=>trivial) HR.out HB.out HB.out.size (by have:=hlen.out;omega) ?_;intro v9 w9 ho hb hg hat;have HR9:=ak ho;have HB9:=ak hb;clear ho hb hg hat))
    go_roundw
    case rel=>exact ⟨k+1,by omega,by go_num,HB9,⟨by rw [HSU.out,if_pos HT.out];exact HR9.out⟩⟩
    case measure=>simp [intOf];omega
  ·obtain rfl:k=512:=by omega
   go_wp2_with fail
   go_ret
   exact ⟨_,rfl,Kd.R_lower HR.out HB2.out.size,below_step HB2.out HB.out⟩
theorem rafter_none (fn rg:Int) (Ab:Option Addr) (cb:Nat) (bs:List S43) (block ins:Int) (w:World) (hC:Kd.C k43 w Ab bs.length bs) (hno:¬ (0≤block∧block<bs.length∧0≤ins∧ins<(rd_T43 bs block).f1.length)) :
  Calls Try.prog 9 #[.agg #[.int .i64 fn,.int .i64 rg,.slice Ab bs.length cb],.int .i64 block,.int .i64 ins] w fun e w'=>∃ v,e= .returned v∧Kd.R (Kd.int .i64) 3 w' w.heap.size (fun _=>True) v []∧Below w.heap.size w w':=by
 have HC:=ak hC;clear hC
 by_cases h0:block<0
 ·have hb0:decide (block<0)=true:=decide_eq_true h0;clear hno
  go_enter Try.func9,Try.ntmps9
  go_wp2_with (first
   |((with_reducible refine gate_dst (N:=3) rfl ?_);refine box_event ?hg (N:=3) ?hd (cs:= #[.int .i64 fn,.int .i64 rg,.slice Ab bs.length cb]) (t:=24) ?hr ?_;(case hd=>rfl);(case hg=>rfl);(case hr=>first |(go_simp;done) |(go_simp;rfl));intro g1 hg1 w1 hA1 hb1;have HB1:=ak hb1;have u2:w1.cell? ⟨g1,2,none⟩=some (.slice Ab bs.length cb):=(qk hA1 2);clear hg1 hA1 hb1))
  go_ret
  exact ⟨_,rfl,Kd.R_nil _ _ _ _ _,HB1.out⟩
 have hb0:decide (block<0)=false:=decide_eq_false h0
 by_cases h1:(bs.length:Int)≤block
 ·have hb1:decide ((bs.length:Int)≤block)=true:=decide_eq_true h1;clear hno
  go_enter Try.func9,Try.ntmps9
  go_wp2_with (first
   |((with_reducible refine gate_dst (N:=3) rfl ?_);refine box_event ?hg (N:=3) ?hd (cs:= #[.int .i64 fn,.int .i64 rg,.slice Ab bs.length cb]) (t:=24) ?hr ?_;(case hd=>rfl);(case hg=>rfl);(case hr=>first |(go_simp;done) |(go_simp;rfl));intro g1 hg1 w1 hA1 hb1;have HB1:=ak hb1;have u2:w1.cell? ⟨g1,2,none⟩=some (.slice Ab bs.length cb):=(qk hA1 2);clear hg1 hA1 hb1))
  go_ret
  exact ⟨_,rfl,Kd.R_nil _ _ _ _ _,HB1.out⟩
 obtain ⟨b,rfl⟩:∃ b:Nat,block=b:=⟨block.toNat,by omega⟩
 have hb1:decide ((bs.length:Int)≤b)=false:=decide_eq_false h1;have hbi:(b:Int)<bs.length:=by omega
 obtain ⟨ad,A1,c1,A2,c2,e,hx0,hx1,hx2,l1,hg1,l2,hg2⟩:=rd_block HC.out (Below.refl _ w) b (by omega);subst e;clear hx0 hx2 l1 hg1 l2 hg2
 by_cases h2:ins<0
 ·have hi0:decide (ins<0)=true:=decide_eq_true h2;clear hno
  go_enter Try.func9,Try.ntmps9
  go_wp2_with (first
   |((with_reducible refine gate_dst (N:=3) rfl ?_);refine box_event ?hg (N:=3) ?hd (cs:= #[.int .i64 fn,.int .i64 rg,.slice (some ad) bs.length cb]) (t:=24) ?hr ?_;(case hd=>rfl);(case hg=>rfl);(case hr=>first |(go_simp;done) |(go_simp;rfl));intro g1 hg1 w1 hA1 hb1;have HB1:=ak hb1;have u2:w1.cell? ⟨g1,2,none⟩=some (.slice (some ad) bs.length cb):=(qk hA1 2);replace hx1:=pw_cell_below hb1 hx1;clear hg1 hA1 hb1))
  go_ret
  exact ⟨_,rfl,Kd.R_nil _ _ _ _ _,HB1.out⟩
 have hi0:decide (ins<0)=false:=decide_eq_false h2;have h3:((rd_T43 bs b).f1.length:Int)≤ins:=by
  apply Classical.byContradiction;intro h3;exact hno ⟨by omega,by omega,by omega,by omega⟩
 have hi1:decide (((rd_T43 bs b).f1.length:Int)≤ins)=true:=decide_eq_true h3;clear hno
 go_enter Try.func9,Try.ntmps9
 go_wp2_with (first
  |((with_reducible refine gate_dst (N:=3) rfl ?_);refine box_event ?hg (N:=3) ?hd (cs:= #[.int .i64 fn,.int .i64 rg,.slice (some ad) bs.length cb]) (t:=24) ?hr ?_;(case hd=>rfl);(case hg=>rfl);(case hr=>first |(go_simp;done) |(go_simp;rfl));intro g1 hg1 w1 hA1 hb1;have HB1:=ak hb1;have u2:w1.cell? ⟨g1,2,none⟩=some (.slice (some ad) bs.length cb):=(qk hA1 2);replace hx1:=pw_cell_below hb1 hx1;clear hg1 hA1 hb1))
 go_ret
 exact ⟨_,rfl,Kd.R_nil _ _ _ _ _,HB1.out⟩
theorem rafter_calls (fn rg:Int) (Ab:Option Addr) (cb:Nat) (bs:List S43) (V:Nat→RS) (block ins:Int) (w:World) (hC:Kd.C k43 w Ab bs.length bs) (hcb:bs.length≤cb) (hf:FitC bs) (hV:Lfp (codeOf bs) V) :
  Calls Try.prog 9 #[.agg #[.int .i64 fn,.int .i64 rg,.slice Ab bs.length cb],.int .i64 block,.int .i64 ins] w fun e w'=>∃ v,e= .returned v∧Kd.R (Kd.int .i64) 3 w' w.heap.size (fun _=>True) v (after bs V block ins)∧Below w.heap.size w w':=by
 unfold after
 split
 ·rename_i h
  obtain ⟨b,rfl⟩:∃ b:Nat,block=b:=⟨block.toNat,by omega⟩
  obtain ⟨i,rfl⟩:∃ b:Nat,ins=b:=⟨ins.toNat,by omega⟩
  simp only [Int.toNat_natCast];exact rafter_main fn rg Ab cb bs V b i w hC hcb hf hV (by omega) (by omega)
 ·rename_i h
  exact rafter_none fn rg Ab cb bs block ins w hC h
end Go.Proofs.Ytklknkfoafdgpaa.LiveRefA
