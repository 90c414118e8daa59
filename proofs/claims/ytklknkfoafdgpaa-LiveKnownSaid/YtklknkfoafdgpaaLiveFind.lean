import Derived.Test.YtklknkfoafdgpaaLiveFindQ
import Derived.Deep.DeepCutAuto
import Derived.Deep.QuietTactic
import Derived.BigQuiet
import Derived.Deep.LoopGhost
namespace Go.Proofs.Ytklknkfoafdgpaa.LiveFind
set_option maxHeartbeats 8000000
set_option maxRecDepth 100000
open RowKit YtklknkfoafdgpaaW.PrintWords YtklknkfoafdgpaaW.PrintLast YtklknkfoafdgpaaW.PrintMore
open PLiveKnown LiveT LiveB LiveInv LiveSet LiveAhead LiveEnd LiveSettled LiveCopied LiveAft LiveRunP LiveSame LiveFit LiveEvt LiveAsked LiveNoth LiveFindP LiveFindQ
set_option linter.unusedVariables false
set_option linter.unusedSimpArgs false
theorem rule_calls (x:S47) (A3:Option Addr) (c3:Nat) (A7:Option Addr) (c7:Nat) (S:RS) (hS:Regs S) (g:Nat) (r:Int) (hr:inR r=true) (w:World) (h:RIn w x A3 c3 A7 c7) (hf:Fit47 x) (hk:KS w g 512 (fun r=>S (r:Int))) :
  Calls Try.prog 49 #[v47 x A3 c3 A7 c7,.slice (some ⟨g,0,none⟩) 512 512,.int .i64 r] w fun e w'=>e= .returned (.bool (LiveT.ahead (iOf x) S r))∧Below w.heap.size w w':=by
 obtain ⟨k,hk2⟩:=rule_ev x S hS r hr hf;have hc:=ks_C hk;have hml:=maskL_length S;have h2:=zrule.calls k x.f0 x.f1 x.f2 A3 c3 x.f3 x.f4 x.f5 x.f6 A7 c7 x.f7 (some ⟨g,0,none⟩) 512 (maskL S) r (LiveT.ahead (iOf x) S r) w h.r3 h.l3 h.r7 h.l7 (by rw [hml];exact hc) (by rw [hml];exact Nat.le_refl _) hk2;rw [hml] at h2;exact h2
theorem next_calls {W:World} {base:Nat} {bs:List S43} {A:Option Addr} {c:Nat} {vs:Nat→Value} {H:Nat→Nat→Nat} {f:Nat→Nat→RS} (fn rg:Int) (Ab:Option Addr) (cb:Nat) (hC:Kd.C k43 W Ab bs.length bs) (hcb:bs.length≤cb) (h:W3 W base bs.length (.slice A bs.length c) (rowsOf bs) vs H f) (b:Nat) (hb:b<bs.length) (r:Nat) (hr:r<512) (hn:(nxOf bs b).length≤9223372036854775806) :
  Calls Try.prog 48 #[.agg #[.int .i64 fn,.int .i64 rg,.slice Ab bs.length cb],.slice A bs.length c,.int .i64 b,.int .i64 r] W fun e w'=>e= .returned (.bool (endd bs.length (fun m=>f m 0) (nxOf bs b) (r:Int)))∧Below W.heap.size W w':=by
 obtain ⟨k,hk⟩:=next_ev fn rg bs (rowsOf bs) f (fun b _=>Nat.succ_pos _) b hb r hr hn;obtain ⟨A',c',hv,hc,hC3⟩:=W3.C h;injection hv with h1 h2 h3;subst h1;subst h3;have hl:=fl3_length bs.length (rowsOf bs) f;have h2:=znext.calls k fn rg Ab cb bs A c (fl3 bs.length (rowsOf bs) f) b r _ W hC hcb (by rw [hl];exact hC3) (by rw [hl];exact hc) hk;rw [hl] at h2;exact h2
structure FS (w W:World) (bs:List S43) (V:Nat→RS) (v vr:Value) (vs:Nat→Value) (H:Nat→Nat→Nat) (f0 f:Nat→Nat→RS) (ch:Bool) (D:Prop):Prop where
 below:Below w.heap.size w W
 w3:W3 W w.heap.size bs.length v (rowsOf bs) vs H f
 regs:Kd.R (Kd.int .i64) 3 W w.heap.size (fun _=>True) vr (regsTo (askC bs) 512)
 snd:Snd bs V f
 le:cnt3 f0 (rowsOf bs) bs.length≤cnt3 f (rowsOf bs) bs.length
 lt:ch=true→cnt3 f0 (rowsOf bs) bs.length<cnt3 f (rowsOf bs) bs.length
 done:ch=false→f=f0∧D
section
variable {w W W1:World} {bs:List S43} {V:Nat→RS} {v vr:Value} {vs:Nat→Value} {H:Nat→Nat→Nat} {f0 f:Nat→Nat→RS} {ch:Bool} {D D':Prop}
theorem FS.next (h:FS w W bs V v vr vs H f0 f ch D) (hb:Below W.heap.size W W1):FS w W1 bs V v vr vs H f0 f ch D:=
 ⟨below_step h.below hb,h.w3.next hb,Kd.R_below h.regs hb,h.snd,h.le,h.lt,h.done⟩
theorem FS.keep (h:FS w W bs V v vr vs H f0 f ch D) (hD:f=f0→D→D'):FS w W bs V v vr vs H f0 f ch D':=
 ⟨h.below,h.w3,h.regs,h.snd,h.le,h.lt,fun hc=>⟨(h.done hc).1,hD (h.done hc).1 (h.done hc).2⟩⟩
theorem FS.set (h:FS w W bs V v vr vs H f0 f ch D) (hV:Lfp (codeOf bs) V) {b i r:Nat} (hb:b<bs.length) (hi:i≤(insOf bs b).length) (hr:r<512) (hf:f b i (r:Int)=false) (hw:want bs V b i (r:Int)=true) (D':Prop) :
  FS w (W.setCell ⟨H b i,r,none⟩ (.bool true)) bs V v vr vs H f0 (upd f b i (r:Int)) true D':=by
 have hil:i<rowsOf bs b:=Nat.lt_succ_of_le hi;have hk:=h.w3.cells b i hb hil;have hg:=grown_set W (H b i) r (.bool true);have hreg:Regs (f b i):=fun x hx=>want_regs hV b i x (h.snd b i hb hi x hx)
 have hlt:=cnt3_upd (f:=f) hb hil hr hf hreg;have hle:=h.le;refine ⟨h.below.setCell (p:=⟨H b i,r,none⟩) (h.w3.low b i hb hil) _,h.w3.put hb hil,Kd.R_grown1 h.regs rfl hg (ks_apart h.regs hk (by decide)),h.snd.upd hw,by omega,fun _=>by omega,fun hc=>by cases hc⟩
end
def AllR (bs:List S43) (f:Nat→Nat→RS) (b:Nat):Prop:=∀ r:Int,askC bs r=true→ClosedR bs f b r
def eachOK (bs:List S43) (f:Nat→Nat→RS) (b:Nat) (r:Int) (i:Nat):Prop:=LiveT.ahead (iOf (rd_T47 (insOf bs b) i)) (f b (i+1)) r=true→f b i r=true
def lastOK (bs:List S43) (f:Nat→Nat→RS) (b:Nat) (r:Int):Prop:=endd bs.length (fun m=>f m 0) (nxOf bs b) r=true→f b (insOf bs b).length r=true
theorem mem_regsTo (S:RS) (k:Nat) (r:Int):r∈regsTo S k↔ ∃ n:Nat,r=n∧n<k∧S (n:Int)=true:=by
 unfold regsTo;simp only [List.mem_map,List.mem_filter,List.mem_range];constructor
 ·rintro ⟨n,⟨h1,h2⟩,rfl⟩;exact ⟨n,rfl,h1,h2⟩
 ·rintro ⟨n,rfl,h1,h2⟩;exact ⟨n,⟨h1,h2⟩,rfl⟩
theorem allR_of {bs:List S43} {f:Nat→Nat→RS} {b:Nat} (h:∀ r∈regsTo (askC bs) 512,ClosedR bs f b r):AllR bs f b:=by
 intro r hr;have hin:=((askC_mem bs r).mp hr).1;simp only [inR,Bool.and_eq_true,decide_eq_true_eq] at hin;obtain ⟨n,rfl⟩:∃ n:Nat,r=n:=⟨r.toNat,by omega⟩
 exact h _ ((mem_regsTo _ _ _).mpr ⟨n,rfl,by omega,hr⟩)
def DoneJ (bs:List S43) (f:Nat→Nat→RS) (b:Nat) (l:List Int):Prop:=(∀ b',b+1≤b'→b'<bs.length→AllR bs f b')∧∀ r∈l,ClosedR bs f b r
def r26_20_T:Bool×List (List Nat×List Nat):=(true,[([],[]),([],[]),([0,1],[0,1]),([2],[2]),([],[]),([3,4],[3,4]),([5],[5]),([],[]),([6,7],[6,7]),([8],[8]),([9],[9]),([10],[10]),([11],[11]),([12,11],[11,12]),([11],[11]),([13,14,11],[11,13,14]),([15,11],[11,15]),([16,11],[11,16]),([11],[11]),([17,18,11],[11,17,18]),([19,11],[11,19]),([11],[11]),([11],[11]),([21,22,11],[11,21,22]),([23,11],[11,23]),([11],[11]),([25,11],[11,25]),([24,26,11],[11,24,26]),([27,11],[11,27]),([11],[11]),([20,28,29,11,11],[11,20,28,29]),([11,30],[11,30])])
def r26_20_B:List Nat:=[0,0,3,7,0,31,63,0,255,511,1023,2047,4095,8191,4095,32767,65535,131071,4095,524287,1048575,4095,4095,6295551,14684159,4095,33558527,132124671,266342399,4095,1073741823,2147483647]
theorem r26_20_tab:rtab .any (opsOf Try.f26 20)=r26_20_T:=by kernel_rfl
theorem r26_20_bits:waitsOk r26_20_T.2 r26_20_B=true:=by kernel_rfl
theorem find_calls (fn rg:Int) (Ab:Option Addr) (cb:Nat) (bs:List S43) (V:Nat→RS) (w:World) (hC:Kd.C k43 w Ab bs.length bs) (hcb:bs.length≤cb) (hf:FitC bs) (hV:Lfp (codeOf bs) V) :
  Calls Try.prog 26 #[.agg #[.int .i64 fn,.int .i64 rg,.slice Ab bs.length cb]] w fun e w'=>∃ v vs H f,e= .returned v∧W3 w' w.heap.size bs.length v (rowsOf bs) vs H f∧(∀ b i,b<bs.length→i≤(insOf bs b).length→f b i=want bs V b i)∧Below w.heap.size w w':=by
 have HC:=ak hC;have HCB:=ak hcb;have HFT:=ak hf;have HV:=ak hV;have hbm:bs.length≤9223372036854775807:=by have:=hf.blocks;omega
 clear hC hcb hf hV
 go_enter Try.func26,Try.ntmps26
 go_wp2_with (first
  |((with_reducible refine gate_dst (N:=1) rfl ?_);refine zero_event 24 #[.int .i64 fn,.int .i64 rg,.slice Ab bs.length cb] rfl rfl qb ?_;intro g1 w1 hg1 hA1 hb1;have HG1:=ak hg1;have HA1:=ak hA1;have HB1:=ak hb1;have u0:w1.cell? ⟨g1,0,none⟩=some (.int .i64 fn):=(qk hA1 0);have u1:w1.cell? ⟨g1,1,none⟩=some (.int .i64 rg):=(qk hA1 1);have u2:w1.cell? ⟨g1,2,none⟩=some (.slice Ab bs.length cb):=(qk hA1 2);clear hg1 hA1 hb1)
  |(go_at_call 46;refine (nothing_calls fn rg Ab cb bs _ (Kd.C_below HC.out HB1.out) HFT.out).mono ?_;rintro e w2 ⟨v,vs,H,rfl,hw3,hb2⟩;obtain ⟨A3,c3,hv⟩:=Kd.R_slice hw3.top;rw [List.length_map,List.length_range] at hv;subst hv;have HW2:=ak hw3;have HB2:=ak hb2;replace u0:=pw_cell_below hb2 u0;replace u1:=pw_cell_below hb2 u1;replace u2:=pw_cell_below hb2 u2;clear hw3 hb2)
  |(go_at_call 47;refine (asked_calls fn rg Ab cb bs _ (Kd.C_below HC.out (below_step HB1.out HB2.out)) HFT.out).mono ?_;rintro e w3 ⟨vr,rfl,ho,hb3⟩;obtain ⟨A4,c4,hv⟩:=Kd.R_slice ho;subst hv;have HR3:=ak (Kd.R_lower ho HB2.out.size);have HW3:=ak (HW2.out.next hb3);have HB3:=ak (below_step HB2.out hb3);clear ho hb3))
 have HC1:=ak (Kd.C_below HC.out HB1.out);have H0:Aside0 (FS w1 w3 bs V (.slice A3 bs.length c3) (.slice A4 (regsTo (askC bs) 512).length c4) vs H (fun _ _=>none') (fun _ _=>none') false (true=false→∀ b,b<bs.length→AllR bs (fun _ _=>none') b)):=⟨HB3.out,HW3.out,HR3.out,fun b i _ _ r hr=>by simp [none'] at hr,Nat.le_refl _,(fun h=>by cases h),fun _=>⟨rfl,fun h=>by cases h⟩⟩
 clear HW2 HB2 HR3 HW3 HB3 u0 u1 u2;have HRL:=ak (regsTo_length (askC bs) 512);have hrl:(regsTo (askC bs) 512).length≤512:=regsTo_length (askC bs) 512;generalize hRG:regsTo (askC bs) 512=RG at *;have HRG:=ak hRG;clear hRG
 go_loopg [5] (2*room (rowsOf bs) bs.length+1) (fun gk v5 wi=>∃ (f:Nat→Nat→RS) (ch:Bool),v5= .bool ch∧Aside0 (FS w1 wi bs V (.slice A3 bs.length c3) (.slice A4 RG.length c4) vs H f f false (ch=false→∀ b,b<bs.length→AllR bs f b))∧Aside0 (2*(room (rowsOf bs) bs.length-cnt3 f (rowsOf bs) bs.length)+ch.toNat≤gk))
 case atStart=>exact ⟨_,true,rfl,H0,⟨by simp;omega⟩⟩
 case round =>
  clear H0;obtain ⟨f,ch,rfl,HF,HM⟩:=hrel;cases ch
  ·go_wp2_with fail
   go_ret
   have hall:=(HF.out.done rfl).2 (by trivial);have hw:=HF.out.w3;refine ⟨_,rfl,vs,H,f,⟨Kd.R_lower hw.top HB1.out.size,fun b hb=>Kd.R_lower (hw.rows b hb) HB1.out.size,hw.cells,hw.apart,fun b i hb hi=>Nat.le_trans HB1.out.size (hw.low b i hb hi)⟩,fun b i hb hi=>found HV.out HF.out.snd hall b i hb hi,below_step HB1.out HF.out.below⟩
  ·have u2:=pw_cell_below HF.out.below (qj HA1 2:w1.cell? ⟨g1,2,none⟩=some (.slice Ab bs.length cb))
   go_wp2_with fail
   clear u2;have H0:Aside0 (FS w1 wr bs V (.slice A3 bs.length c3) (.slice A4 RG.length c4) vs H f f false (∀ b,bs.length≤b→b<bs.length→AllR bs f b)):=⟨HF.out.keep (fun _ _ b h1 h2=>by omega)⟩
   clear HF
   go_loopw [5,6] (fun v5 v6 wi=>∃ (f1:Nat→Nat→RS) (ch:Bool) (k:Nat) (b1:Int),k≤bs.length∧b1=(k:Int)-1∧v5= .bool ch∧v6= .int .i64 b1∧Aside0 (FS w1 wi bs V (.slice A3 bs.length c3) (.slice A4 RG.length c4) vs H f f1 ch (∀ b,k≤b→b<bs.length→AllR bs f b))) (fun _ v6 _=>(intOf v6+1).toNat)
   case atStart=>exact ⟨f,false,bs.length,(bs.length:Int)-1,by omega,rfl,rfl,by go_num,H0⟩
   case round =>
    clear H0;obtain ⟨f1,ch,k,b1,hk,hb1,rfl,rfl,HF⟩:=hrel
    by_cases h0:k=0
    ·subst h0;have hd:decide (0≤b1)=false:=decide_eq_false (by omega)
     go_wp2_with fail
     go_roundg (2*(room (rowsOf bs) bs.length-cnt3 f1 (rowsOf bs) bs.length)+ch.toNat)
     case rel=>exact ⟨f1,ch,rfl,⟨⟨HF.out.below,HF.out.w3,HF.out.regs,HF.out.snd,Nat.le_refl _,(fun h=>by cases h),fun _=>⟨rfl,fun hc b hb=>by have hd:=HF.out.done hc;rw [hd.1];exact hd.2 b (Nat.zero_le _) hb⟩⟩⟩,⟨Nat.le_refl _⟩⟩
     case measure =>
      have h1:=HM.out;have h2:=cnt3_le f1 (rowsOf bs) bs.length;have h3:=HF.out.lt;have h4:=HF.out.le;cases ch
      ·simp at h1 ⊢
       omega
      ·have h5:=h3 rfl
       simp at h1 ⊢
       omega
    ·obtain ⟨b,rfl⟩:∃ b,k=b+1:=⟨k-1,by omega⟩
     obtain rfl:b1=(b:Int):=by omega
     have HBL:Aside0 (b<bs.length):=⟨by omega⟩
     have hbi:(b:Int)<bs.length:=by omega
     clear hb1 h0 hk;obtain ⟨ad,A1,c1,A2,c2',e,hx0,hx1,hx2,l1,q1,l2,q2⟩:=rd_block HC1.out (Below.refl _ w1) b HBL.out;subst e;have HX1:=ak hx1;have HI:=ak q1;have HFI:=ak (HFT.out.each b HBL.out);have hmx:(rd_T43 bs b).f1.length≤9223372036854775806:=by have:=HFT.out.ins b HBL.out;omega
     have HNX:Aside0 ((nxOf bs b).length≤9223372036854775806):=⟨by have:=HFT.out.next b HBL.out;unfold nxOf;omega⟩
     have HIN:Aside0 (insOf bs b=(rd_T43 bs b).f1):=⟨rfl⟩
     have HRO:Aside0 (rowsOf bs b=(rd_T43 bs b).f1.length+1):=⟨rfl⟩
     generalize (rd_T43 bs b).f1=ins at HX1 HI HFI hmx HIN HRO;clear hx0 hx1 hx2 l1 q1 l2 q2;have u2:=pw_cell_below HF.out.below (qj HA1 2:w1.cell? ⟨g1,2,none⟩=some (.slice (some ad) bs.length cb));have hx1:=pw_cell_below HF.out.below HX1.out
     go_wp2_with fail
     clear u2 hx1;have H0:Aside0 (FS w1 wr bs V (.slice A3 bs.length c3) (.slice A4 RG.length c4) vs H f f1 ch (DoneJ bs f b (RG.take 0))):=⟨HF.out.keep (fun _ h=>⟨h,fun r hr=>by simp at hr⟩)⟩
     clear HF
     go_loopw [5,8] (fun v5 v8 wi=>∃ (f1:Nat→Nat→RS) (ch:Bool) (j:Nat),j≤RG.length∧v5= .bool ch∧v8= .int .i64 j∧Aside0 (FS w1 wi bs V (.slice A3 bs.length c3) (.slice A4 RG.length c4) vs H f f1 ch (DoneJ bs f b (RG.take j)))) (fun _ v8 _=>RG.length-(intOf v8).toNat)
     case atStart=>exact ⟨f1,ch,0,by omega,rfl,rfl,H0⟩
     case round =>
      clear H0;obtain ⟨f1,ch,j,hj,rfl,rfl,HF⟩:=hrel
      by_cases hlt:j<RG.length
      ·have hC4:=(Kd.R_reads' HF.out.regs).2.2;rw [HRG.out] at hC4;obtain ⟨a4,e,h4⟩:=Kd.at_int hC4 (j:Int) (by omega) (by omega);subst e;rw [rdI RG j hlt] at h4;simp only [Int.toNat_natCast] at h4;have hmem:RG[j]∈regsTo (askC bs) 512:=by rw [HRG.out];exact List.getElem_mem hlt
       have htk:RG.take (j+1)=RG.take j++[RG[j]]:=by rw [List.take_add_one,List.getElem?_eq_getElem hlt];rfl
       have HTK:=ak htk;obtain ⟨r,hr,hr5,hask⟩:=(mem_regsTo _ _ _).mp hmem;rw [hr] at h4 HTK;have HR5:=ak hr5;have HJL:=ak hlt;have hji:(j:Int)<RG.length:=by omega
       clear hC4 hmem htk hr hask hj hlt;obtain ⟨ad3,c3',ab,cb',hv,hc3,hvb,hlb,k1,k2,kS⟩:=W3.rd HF.out.w3 b ins.length HBL.out (by rw [HRO.out];omega);injection hv with hv1 hv2 hv3;subst hv1;subst hv3;rw [HRO.out] at k1;have k3:=ks_cell kS r hr5;have hLn:(ins.length:Int)<((ins.length+1:Nat):Int):=by omega
       have hr2:(r:Int)<512:=by omega
       clear hv2 hc3 hvb hlb kS hr5;have u0:=pw_cell_below HF.out.below (qj HA1 0:w1.cell? ⟨g1,0,none⟩=some (.int .i64 fn));have u1:=pw_cell_below HF.out.below (qj HA1 1:w1.cell? ⟨g1,1,none⟩=some (.int .i64 rg));have u2:=pw_cell_below HF.out.below (qj HA1 2:w1.cell? ⟨g1,2,none⟩=some (.slice (some ad) bs.length cb))
       go_upto_region 14 with fail
       go_cut [58] (fun t wx=>(∃ t0,t= .bool t0∧Aside0 (t0=(!f1 b ins.length (r:Int)&&endd bs.length (fun m=>f1 m 0) (nxOf bs b) (r:Int))))∧Aside0 (FS w1 wx bs V (.slice (some ad3) bs.length c3) (.slice (some a4) RG.length c4) vs H f f1 ch (DoneJ bs f b (RG.take j))))
       case first =>
        obtain ⟨t,ht⟩:∃ t,f1 b ins.length (r:Int)=t:=⟨_,rfl⟩
        rw [ht] at k3;have HT:=ak ht;clear ht;cases t
        ·go_wp2_with (go_at_call 48;refine (next_calls fn rg (some ad) cb (Kd.C_below HC1.out HF.out.below) HCB.out HF.out.w3 b HBL.out r HR5.out HNX.out).mono ?_;rintro e w5 ⟨rfl,hb5⟩;have HF5:=ak (HF.out.next hb5);clear hb5)
         go_meet
         exact ⟨⟨_,rfl,⟨by rw [HT.out];rfl⟩⟩,HF5⟩
        ·go_wp2_with fail
         go_meet
         exact ⟨⟨_,rfl,⟨by rw [HT.out];rfl⟩⟩,HF⟩
       obtain ⟨⟨t0,rfl,HT0⟩,HF5⟩:=hcut;clear k1 k2 k3 u0 u1 u2 HF h4;generalize wc=wd at *
       go_upto_if 58 with fail
       have HIL:Aside0 ((insOf bs b).length=ins.length):=⟨by rw [HIN.out]⟩
       go_cut [5] (fun v5 wx=>∃ (f2:Nat→Nat→RS) (ch2:Bool),v5= .bool ch2∧Aside0 (FS w1 wx bs V (.slice (some ad3) bs.length c3) (.slice (some a4) RG.length c4) vs H f f2 ch2 (DoneJ bs f b (RG.take j)∧lastOK bs f b (r:Int))))
       case first =>
        cases t0
        ·go_wp2_with fail
         go_meet
         refine ⟨f1,ch,rfl,⟨HF5.out.keep (fun he hD=>⟨hD,fun hl=>?_⟩)⟩⟩;subst he;have h:=HT0.out;rw [hl,Bool.and_true] at h;rw [HIL.out]
         simpa using h.symm
        ·obtain ⟨ad3',c3',ab,cb',hv,hc3,hvb,hlb,k1,k2,kS⟩:=W3.rd HF5.out.w3 b ins.length HBL.out (by rw [HRO.out];omega);injection hv with hv1 hv2 hv3;injection hv1 with hv1;subst hv1;subst hv3;rw [HRO.out] at k1;have k3:=ks_cell kS r HR5.out;have k4:=ks_frozen kS r;clear hv2 hc3 hvb hlb kS
         go_wp2_with fail
         go_meet
         have h:=HT0.out;simp only [Bool.true_eq,Bool.and_eq_true,Bool.not_eq_true'] at h;exact ⟨_,true,rfl,⟨HF5.out.set HV.out HBL.out (by rw [HIL.out];exact Nat.le_refl _) HR5.out h.1 (by rw [←HIL.out];exact HF5.out.snd.last HV.out b _ h.2) _⟩⟩
       obtain ⟨f2,ch2,rfl,HF6⟩:=hcut;clear HF5 HT0
       go_wp2_with fail
       clear hLn;generalize wc=wi0 at *;have H0:Aside0 (FS w1 wi0 bs V (.slice (some ad3) bs.length c3) (.slice (some a4) RG.length c4) vs H f f2 ch2 ((DoneJ bs f b (RG.take j)∧lastOK bs f b (r:Int))∧∀ i,ins.length≤i→i<ins.length→eachOK bs f b (r:Int) i)):=⟨HF6.out.keep (fun _ h=>⟨h,fun i h1 h2=>by omega⟩)⟩
       clear HF6
       go_loopw [5,10] (fun v5 v10 wi=>∃ (f2:Nat→Nat→RS) (ch2:Bool) (m:Nat) (i1:Int),m≤ins.length∧i1=(m:Int)-1∧v5= .bool ch2∧v10= .int .i64 i1∧Aside0 (FS w1 wi bs V (.slice (some ad3) bs.length c3) (.slice (some a4) RG.length c4) vs H f f2 ch2 ((DoneJ bs f b (RG.take j)∧lastOK bs f b (r:Int))∧∀ i,m≤i→i<ins.length→eachOK bs f b (r:Int) i))) (fun _ v10 _=>(intOf v10+1).toNat)
       case atStart=>exact ⟨f2,ch2,ins.length,(ins.length:Int)-1,by omega,rfl,rfl,by go_num,H0⟩
       case round =>
        clear H0;obtain ⟨f2,ch2,m,i1,hm,hi1,rfl,rfl,HF⟩:=hrel
        by_cases h0:m=0
        ·subst h0;have hd:decide (0≤i1)=false:=decide_eq_false (by omega);have hjl:=HJL.out
         go_wp2_with fail
         go_roundw
         case rel =>
          refine ⟨f2,ch2,j+1,by omega,rfl,by go_num,⟨HF.out.keep (fun he h=>⟨h.1.1.1,fun x hx=>?_⟩)⟩⟩;rw [HTK.out] at hx
          rcases List.mem_append.mp hx with hx |hx
          ·exact h.1.1.2 x hx
          ·rw [List.mem_singleton] at hx;subst hx;exact ⟨h.1.2,fun i hi=>h.2 i (Nat.zero_le _) (by rw [←HIL.out];exact hi)⟩
         case measure=>simp [intOf];omega
        ·obtain ⟨i,rfl⟩:∃ i,m=i+1:=⟨m-1,by omega⟩
         obtain rfl:i1=(i:Int):=by omega
         have HLT:Aside0 (i<ins.length):=⟨by omega⟩
         have hii:(i:Int)<ins.length:=by omega
         clear hi1 h0 hm;obtain ⟨ai,B3,d3,B7,d7,e,hin,hrin⟩:=rd_ins HI.out i HLT.out;subst e;have HXR:Aside0 (∀ W,Below w1.heap.size w1 W→RIn W (rd_T47 ins i) B3 d3 B7 d7):=⟨fun W hW=>hrin.below hW⟩
         have HFX:=ak (HFI.out i HLT.out);obtain ⟨q0,q1,q2,q3,q4,q5,q6,q7⟩:=hin.below HF.out.below;have HST:Aside0 (∀ g:Nat→Nat→RS,eachOK bs g b (r:Int) i↔(LiveT.ahead (iOf (rd_T47 ins i)) (g b (i+1)) (r:Int)=true→g b i (r:Int)=true)):=⟨fun g=>by unfold eachOK;rw [HIN.out]⟩
         have HWS:Aside0 (∀ g:Nat→Nat→RS,Snd bs V g→LiveT.ahead (iOf (rd_T47 ins i)) (g b (i+1)) (r:Int)=true→want bs V b i (r:Int)=true):=⟨fun g hg h=>hg.each HBL.out (by rw [HIL.out];exact HLT.out) _ (by rw [HIN.out];exact h)⟩
         generalize rd_T47 ins i=x at q0 q1 q2 q3 q4 q5 q6 q7 HXR HFX HST HWS;clear hin hrin;obtain ⟨ad3',c3',ab,cb',hv,hc3,hvb,hlb,k1,k2,kS⟩:=W3.rd HF.out.w3 b i HBL.out (by rw [HRO.out];omega);injection hv with hv1 hv2 hv3;injection hv1 with hv1;subst hv1;subst hv3;obtain ⟨ad3',c3',ab2,cb2,hv,hc32,hvb2,hlb2,k1',k2',kS2⟩:=W3.rd HF.out.w3 b (i+1) HBL.out (by rw [HRO.out];omega);rw [hvb] at hvb2;injection hvb2 with hb1 hb2 hb3;injection hb1 with hb1;subst hb1;rw [HRO.out] at k1;have HKS:=ak kS;have HKS2:=ak kS2;have k3:=ks_cell kS r HR5.out
         clear hv hv2 hc3 hvb hlb kS hc32 hlb2 k1' kS2 hb2 hb3;have hL1:(i:Int)<((ins.length+1:Nat):Int):=by omega
         have hL2:(i:Int)+1<((ins.length+1:Nat):Int):=by omega
         have hL3:(i:Int)<(ins.length:Int)+1:=by omega
         have hL4:(i:Int)+1<(ins.length:Int)+1:=by omega
         have hL5:0≤(i:Int)+1:=by omega
         have hti:((i:Int)+1).toNat=i+1:=by omega
         have hwi:IntKind.i64.wrap ((i:Int)+1)=(i:Int)+1:=by rw [IntKind.wrap_i64];omega
         have u2:=pw_cell_below HF.out.below (qj HA1 2:w1.cell? ⟨g1,2,none⟩=some (.slice (some ad) bs.length cb));have hx1:=pw_cell_below HF.out.below HX1.out
         go_wp2_with fail
         go_cut [105] (fun t wx=>(∃ t0,t= .bool t0∧Aside0 (t0=(!f2 b i (r:Int)&&LiveT.ahead (iOf x) (f2 b (i+1)) (r:Int))))∧Aside0 (FS w1 wx bs V (.slice (some ad3) bs.length c3) (.slice (some a4) RG.length c4) vs H f f2 ch2 ((DoneJ bs f b (RG.take j)∧lastOK bs f b (r:Int))∧∀ i',i+1≤i'→i'<ins.length→eachOK bs f b (r:Int) i')))
         case first =>
          obtain ⟨t,ht⟩:∃ t,f2 b i (r:Int)=t:=⟨_,rfl⟩
          rw [ht] at k3;have HT:=ak ht;clear ht;cases t
          ·have HD:Aside0 (Below wr.heap.size wr wr.drew):=⟨below_drew1 (Below.refl _ _)⟩
           have Z0:Aside0 (wr.drew.cell? (ad3.add b)=some (.slice (some ab) (ins.length+1) cb')):=⟨k1⟩
           have Z1:Aside0 (wr.drew.cell? (ab.add i)=some (.slice (some ⟨H b i,0,none⟩) 512 512)):=⟨k2⟩
           have Z2:Aside0 (wr.drew.cell? ⟨H b i,r,none⟩=some (.bool false)):=⟨k3⟩
           have Z3:Aside0 (wr.drew.cell? ⟨g1,2,none⟩=some (.slice (some ad) bs.length cb)):=⟨u2⟩
           have Z4:Aside0 (wr.drew.cell? ⟨(ad.add (b*3)).block,(ad.add (b*3)).off+1,none⟩=some (.slice (some ai) ins.length c1)):=⟨hx1⟩
           have Z5:Aside0 (wr.drew.cell? (ai.add (i*8))=some (.int .i64 x.f0)):=⟨q0⟩
           have Z6:Aside0 (wr.drew.cell? ⟨(ai.add (i*8)).block,(ai.add (i*8)).off+1,none⟩=some (.int .i64 x.f1)):=⟨q1⟩
           have Z7:Aside0 (wr.drew.cell? ⟨(ai.add (i*8)).block,(ai.add (i*8)).off+2,none⟩=some (.int .i64 x.f2)):=⟨q2⟩
           have Z8:Aside0 (wr.drew.cell? ⟨(ai.add (i*8)).block,(ai.add (i*8)).off+3,none⟩=some (.slice B3 x.f3.length d3)):=⟨q3⟩
           have Z9:Aside0 (wr.drew.cell? ⟨(ai.add (i*8)).block,(ai.add (i*8)).off+4,none⟩=some (.int .i64 x.f4)):=⟨q4⟩
           have Z10:Aside0 (wr.drew.cell? ⟨(ai.add (i*8)).block,(ai.add (i*8)).off+5,none⟩=some (.int .i64 x.f5)):=⟨q5⟩
           have Z11:Aside0 (wr.drew.cell? ⟨(ai.add (i*8)).block,(ai.add (i*8)).off+6,none⟩=some (.int .i64 x.f6)):=⟨q6⟩
           have Z12:Aside0 (wr.drew.cell? ⟨(ai.add (i*8)).block,(ai.add (i*8)).off+7,none⟩=some (.slice B7 x.f7.length d7)):=⟨q7⟩
           have Z13:Aside0 (wr.drew.cell? ⟨ab.block,ab.off+(i+1),none⟩=some (.slice (some ⟨H b (i+1),0,none⟩) 512 512)):=⟨k2'⟩
           clear k1 k2 k3 u2 hx1 q0 q1 q2 q3 q4 q5 q6 q7 k2'
           refine start_ (n:=32) (S:=fun w'=>w'.cell? (ad3.add b)=some (.slice (some ab) (ins.length+1) cb')∧w'.cell? (ab.add i)=some (.slice (some ⟨H b i,0,none⟩) 512 512)∧w'.cell? ⟨H b i,r,none⟩=some (.bool false)∧w'.cell? ⟨g1,2,none⟩=some (.slice (some ad) bs.length cb)∧w'.cell? ⟨(ad.add (b*3)).block,(ad.add (b*3)).off+1,none⟩=some (.slice (some ai) ins.length c1)∧w'.cell? (ai.add (i*8))=some (.int .i64 x.f0)∧w'.cell? ⟨(ai.add (i*8)).block,(ai.add (i*8)).off+1,none⟩=some (.int .i64 x.f1)∧w'.cell? ⟨(ai.add (i*8)).block,(ai.add (i*8)).off+2,none⟩=some (.int .i64 x.f2)∧w'.cell? ⟨(ai.add (i*8)).block,(ai.add (i*8)).off+3,none⟩=some (.slice B3 x.f3.length d3)∧w'.cell? ⟨(ai.add (i*8)).block,(ai.add (i*8)).off+4,none⟩=some (.int .i64 x.f4)∧w'.cell? ⟨(ai.add (i*8)).block,(ai.add (i*8)).off+5,none⟩=some (.int .i64 x.f5)∧w'.cell? ⟨(ai.add (i*8)).block,(ai.add (i*8)).off+6,none⟩=some (.int .i64 x.f6)∧w'.cell? ⟨(ai.add (i*8)).block,(ai.add (i*8)).off+7,none⟩=some (.slice B7 x.f7.length d7)∧w'.cell? ⟨ab.block,ab.off+(i+1),none⟩=some (.slice (some ⟨H b (i+1),0,none⟩) 512 512)) (ds:=[]) (bz 32 0) (by kernel_rfl) rfl rfl ⟨Z0.out,Z1.out,Z2.out,Z3.out,Z4.out,Z5.out,Z6.out,Z7.out,Z8.out,Z9.out,Z10.out,Z11.out,Z12.out,Z13.out⟩ (fun hHeld=>?_)
           refine with_tabW r26_20_tab r26_20_bits (fun HT_ HW_=>?_);generalize World.drew wr=W2 at HD Z0 Z1 Z2 Z3 Z4 Z5 Z6 Z7 Z8 Z9 Z10 Z11 Z12 Z13 hHeld ⊢;refine pu 0 74 32 1 ?_;refine pu 1 75 32 2 ?_;refine pu 2 76 32 3 ?_;refine tk 3 77 32 4 ?_;refine pu 4 78 32 5 ?_;refine pu 5 79 32 6 ?_;refine tk 6 80 32 7 ?_;refine pu 7 81 32 8 ?_;refine pu 8 82 32 9 ?_;refine tk 9 83 32 10 ?_;refine pu 10 84 32 11 ?_;refine pu 11 85 32 12 ?_;refine pu 12 86 32 13 ?_;refine tk 13 87 32 14 ?_;refine pu 14 88 32 15 ?_;refine pu 15 89 32 16 ?_;refine pu 16 90 32 17 ?_;refine tk 17 91 32 18 ?_
           refine pu 18 92 32 19 ?_;refine pu 19 93 32 20 ?_;refine tk 20 94 32 21 ?_;refine pu 21 95 32 22 ?_;refine pu 22 96 32 23 ?_;refine pu 23 97 32 24 ?_;refine tk 24 98 32 25 ?_;refine pu 25 99 32 26 ?_;refine pu 26 100 32 27 ?_;refine pu 27 101 32 28 ?_;refine tk 28 102 32 29 ?_;refine pu 29 103 32 30 ?_;refine one_ (i:=30) (N:=some 104) (bz 32 31) rfl rfl (one_of HT_.out (by kernel_rfl)) (by decide) (fun K hK=>?_)
           refine goes_ Try.func49 (by kernel_rfl) rfl #[v47 x B3 d3 B7 d7,.slice (some ⟨H b (i+1),0,none⟩) 512 512,.int .i64 r] (by rfl) rfl rfl (by (try simp only [List.map_toArray,List.map_cons,List.map_nil]);first |done |rfl) ?_;refine (rule_calls x B3 d3 B7 d7 (f2 b (i+1)) (fun y hy=>want_regs HV.out b (i+1) y (HF.out.snd b (i+1) HBL.out (by have:=HLT.out;rw [HIL.out];omega) y hy)) (H b (i+1)) r (inR_nat r HR5.out) W2 (HXR.out W2 (below_step HF.out.below HD.out)) HFX.out (ks_below HKS2.out HD.out)).mono ?_;rintro e w6 ⟨rfl,hb0⟩;refine ⟨_,rfl,?_⟩
           have HB6:=ak (below_step HD.out hb0);have hb0':=hb0;clear hb0;refine hK.out _ _ ⟨pw_cell_below hb0' Z0.out,pw_cell_below hb0' Z1.out,pw_cell_below hb0' Z2.out,pw_cell_below hb0' Z3.out,pw_cell_below hb0' Z4.out,pw_cell_below hb0' Z5.out,pw_cell_below hb0' Z6.out,pw_cell_below hb0' Z7.out,pw_cell_below hb0' Z8.out,pw_cell_below hb0' Z9.out,pw_cell_below hb0' Z10.out,pw_cell_below hb0' Z11.out,pw_cell_below hb0' Z12.out,pw_cell_below hb0' Z13.out⟩ (fun hHeld=>?_);clear hK K;refine norm_ (a':=?_) ?_ ?_;rotate_left
           ·show Act.put _ (some 104) _=_
            simp only [Act.put,sA,sB,sC,i64_w,i32_w];rfl
           refine pu 31 105 32 32 ?_;refine done_ (done_of HT_.out (by kernel_rfl)) ?_
           go_wp2
           go_meet
           exact ⟨⟨_,rfl,⟨by rw [HT.out];rfl⟩⟩,⟨HF.out.next HB6.out⟩⟩
          ·go_quiet (fail)
           all_goals (go_wp2;go_meet;exact ⟨⟨_,rfl,⟨by rw [HT.out];rfl⟩⟩,⟨HF.out.next (⟨rfl,rfl,rfl,Nat.le_refl _,fun _ _=>rfl⟩:Below wr.heap.size wr (wr.drewN _))⟩⟩)
         obtain ⟨⟨t0,rfl,HT0⟩,HF5⟩:=hcut;clear q0 q1 q2 q3 q4 q5 q6 q7 k1 k2 k2' k3 u2 hx1 HF;generalize wc=wd at *;cases t0
         ·go_wp2_with fail
          go_roundw
          case rel =>
           refine ⟨f2,ch2,i,(i:Int)-1,by have:=HLT.out;omega,rfl,rfl,by go_num,⟨HF5.out.keep (fun he h=>⟨h.1,fun i' h1 h2=>?_⟩)⟩⟩
           by_cases hi':i'=i
           ·subst hi';refine (HST.out f).mpr (fun hl=>?_);subst he;have h:=HT0.out;rw [hl,Bool.and_true] at h
            simpa using h.symm
           ·exact h.2 i' (by omega) h2
          case measure=>simp [intOf]
         ·obtain ⟨ad3',c3',ab',cb',hv,hc3,hvb,hlb,k1,k2,kS⟩:=W3.rd HF5.out.w3 b i HBL.out (by have:=HLT.out;rw [HRO.out];omega);injection hv with hv1 hv2 hv3;injection hv1 with hv1;subst hv1;subst hv3;rw [HRO.out] at k1;have k3:=ks_cell kS r HR5.out;have k4:=ks_frozen kS r;clear hv2 hc3 hvb hlb kS
          go_wp2_with fail
          go_roundw
          case rel =>
           have h:=HT0.out;simp only [Bool.true_eq,Bool.and_eq_true,Bool.not_eq_true'] at h;exact ⟨_,true,i,(i:Int)-1,by have:=HLT.out;omega,rfl,rfl,by go_num,⟨HF5.out.set HV.out HBL.out (by have:=HLT.out;rw [HIL.out];omega) HR5.out h.1 (HWS.out f2 HF5.out.snd h.2) _⟩⟩
          case measure=>simp [intOf]
      ·obtain rfl:j=RG.length:=by omega
       rw [List.take_length] at HF
       go_wp2_with fail
       go_roundw
       case rel =>
        refine ⟨f1,ch,b,(b:Int)-1,by have:=HBL.out;omega,rfl,rfl,by go_num,⟨HF.out.keep (fun _ h b' h1 h2=>?_)⟩⟩
        by_cases he:b'=b
        ·subst he;exact allR_of (by rw [HRG.out];exact h.2)
        ·exact h.1 b' (by omega) h2
       case measure=>simp [intOf]
end Go.Proofs.Ytklknkfoafdgpaa.LiveFind
