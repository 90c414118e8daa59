import Derived.Test.YtklknkfoafdgpaaLiveAsked
namespace Go.Proofs.Ytklknkfoafdgpaa.LiveNoth
set_option maxHeartbeats 8000000
set_option maxRecDepth 100000
open RowKit YtklknkfoafdgpaaW.PrintWords YtklknkfoafdgpaaW.PrintLast YtklknkfoafdgpaaW.PrintMore
open PLiveKnown LiveT LiveB LiveSet LiveAhead LiveEnd LiveSettled LiveCopied LiveAft LiveRunP LiveSame LiveFit LiveEvt LiveAsked
set_option linter.unusedVariables false
set_option linter.unusedSimpArgs false
def rowV (h:Nat):List Value:=[.slice (some ⟨h,0,none⟩) 512 512]
theorem raw_M {W:World} {base:Nat} {ok:Nat→Prop} (u:Value) (h:u.oneCell'=true):(Kd.raw 1).M W base ok [u] [u]:=⟨rfl,rfl,by simpa using h⟩
theorem ks_congr {w:World} {g n:Nat} {f f':Nat→Bool} (h:KS w g n f) (he:∀ i,i<n→f i=f' i):KS w g n f':=by
 obtain ⟨cs,h1,h2,h3⟩:=h;exact ⟨cs,h1,h2,fun i hi=>by rw [←he i hi];exact h3 i hi⟩
theorem ks_apart {α:Type} {d:Kd α} {e base n g:Nat} {ok:Nat→Prop} {w:World} {v:Value} {xs:List α} {f:Nat→Bool} (h:d.R e w base ok v xs) (hk:KS w g n f) (he:e≠4):some g≠v.ownBlock:=by
 obtain ⟨cs,h1,_,_⟩:=hk;exact Kd.R_ne h h1 he
structure W3 (W:World) (base n:Nat) (v:Value) (L:Nat→Nat) (vs:Nat→Value) (H:Nat→Nat→Nat) (f:Nat→Nat→RS):Prop where
 top:Kd.R (Kd.raw 1) 52 W base (fun _=>True) v ((List.range n).map fun b=>[vs b])
 rows:∀ b,b<n→Kd.R (Kd.raw 1) 53 W base (fun _=>True) (vs b) ((List.range (L b)).map fun i=>rowV (H b i))
 cells:∀ b i,b<n→i<L b→KS W (H b i) 512 (fun r=>f b i (r:Int))
 apart:∀ b i b' i',b<n→i<L b→b'<n→i'<L b'→H b i=H b' i'→b=b'∧i=i'
 low:∀ b i,b<n→i<L b→base≤H b i
structure RI (w W:World) (v:Value) (n:Nat) (H:Nat→Nat):Prop where
 below:Below w.heap.size w W
 own:Kd.R (Kd.raw 1) 53 W w.heap.size (fun _=>True) v ((List.range n).map fun i=>rowV (H i))
 cells:∀ i,i<n→KS W (H i) 512 (fun _=>false)
 apart:∀ i i',i<n→i'<n→H i=H i'→i=i'
 low:∀ i,i<n→w.heap.size≤H i
section
variable {w W W1 W2:World} {base n:Nat} {v v2:Value} {L:Nat→Nat} {vs:Nat→Value} {H:Nat→Nat→Nat} {H1:Nat→Nat} {f:Nat→Nat→RS}
theorem W3.next (h:W3 W base n v L vs H f) (hb:Below W.heap.size W W1):W3 W1 base n v L vs H f:=
 ⟨Kd.R_below h.top hb,fun b hbn=>Kd.R_below (h.rows b hbn) hb,fun b i hbn hi=>ks_below (h.cells b i hbn hi) hb,h.apart,h.low⟩
def upd (f:Nat→Nat→RS) (b0 i0:Nat) (r0:Int):Nat→Nat→RS:=fun b i r=>if b=b0∧i=i0∧r=r0 then true else f b i r
theorem W3.put (h:W3 W base n v L vs H f) {b0 i0 r0:Nat} (hb:b0<n) (hi:i0<L b0):W3 (W.setCell ⟨H b0 i0,r0,none⟩ (.bool true)) base n v L vs H (upd f b0 i0 r0):=by
 have hk:=h.cells b0 i0 hb hi;have hg:=grown_set W (H b0 i0) r0 (.bool true);refine ⟨Kd.R_grown1 h.top rfl hg (ks_apart h.top hk (by decide)),fun b hbn=>Kd.R_grown1 (h.rows b hbn) rfl hg (ks_apart (h.rows b hbn) hk (by decide)),fun b i hbn hin=>?_,h.apart,h.low⟩
 by_cases he:b=b0∧i=i0
 ·obtain ⟨rfl,rfl⟩:=he;refine ks_congr (ks_put hk r0 true) fun r hr=>?_
  simp only [upd,true_and]
  by_cases hrr:r=r0
  ·subst hrr;simp
  ·rw [if_neg hrr,if_neg (by omega)]
 ·refine ks_congr (ks_grown (h.cells b i hbn hin) hg (fun hh=>he (h.apart b i b0 i0 hbn hin hb hi (Option.some.inj hh)))) fun r hr=>?_
  simp only [upd];rw [if_neg (fun hh=>he ⟨hh.1,hh.2.1⟩)]
theorem range_snoc (n:Nat):List.range (n+1)=List.range n++[n]:=List.range_succ
theorem RI.next (h:RI w W v n H1) (hb:Below W.heap.size W W1):RI w W1 v n H1:=
 ⟨below_step h.below hb,Kd.R_below h.own hb,fun i hi=>ks_below (h.cells i hi) hb,h.apart,h.low⟩
theorem RI.push (h:RI w W v n H1) {g:Nat} (hb:Below W.heap.size W W1) (hk:KS W1 g 512 (fun _=>false)) (hg:W.heap.size≤g)
  (ho:Kd.R (Kd.raw 1) 53 W2 w.heap.size (fun _=>True) v2 (((List.range n).map fun i=>rowV (H1 i))++[rowV g])) (hb2:Below w.heap.size w W2) (hgr:W1.grownBy W2 v.ownBlock) :
  RI w W2 v2 (n+1) (fun i=>if i=n then g else H1 i):=by
 have h1:=h.next hb;have hlt:∀ i,i<n→H1 i<W.heap.size:=fun i hi=>ks_lt (h.cells i hi)
 refine ⟨hb2,?_,fun i hi=>?_,fun i i' hi hi' he=>?_,fun i hi=>?_⟩
 ·rw [range_snoc,List.map_append];have:((List.range n).map fun i=>rowV (if i=n then g else H1 i))=(List.range n).map fun i=>rowV (H1 i):=List.map_congr_left fun i hi=>by rw [if_neg (by have:=List.mem_range.mp hi;omega)]
  rw [this]
  simpa using ho
 ·by_cases hin:i=n
  ·subst hin;simp only [if_true];exact ks_grown hk hgr (ks_apart h1.own hk (by decide))
  ·simp only [if_neg hin];have hc:=h1.cells i (by omega);exact ks_grown hc hgr (ks_apart h1.own hc (by decide))
 ·by_cases hin:i=n
  ·by_cases hin':i'=n
   ·omega
   ·simp only [if_pos hin,if_neg hin'] at he;have:=hlt i' (by omega);omega
  ·by_cases hin':i'=n
   ·simp only [if_neg hin,if_pos hin'] at he;have:=hlt i (by omega);omega
   ·simp only [if_neg hin,if_neg hin'] at he;exact h.apart i i' (by omega) (by omega) he
 ·by_cases hin:i=n
  ·simp only [if_pos hin];have:=h.below.size;omega
  ·simp only [if_neg hin];exact h.low i (by omega)
theorem W3.push {wI:World} (h:W3 wI base n v L vs H (fun _ _=>none')) {v5:Value} (hr:RI wI W v5 (L n) H1) (hbase:base≤wI.heap.size)
  (ho:Kd.R (Kd.raw 1) 52 W2 base (fun _=>True) v2 (((List.range n).map fun b=>[vs b])++[[v5]])) (hgr:W.grownBy W2 v.ownBlock) :
  W3 W2 base (n+1) v2 L (fun b=>if b=n then v5 else vs b) (fun b i=>if b=n then H1 i else H b i) (fun _ _=>none'):=by
 have h1:=h.next hr.below;have hty:∀ {u:Value} {ys:List (List Value)} {b2:Nat},Kd.R (Kd.raw 1) 53 W b2 (fun _=>True) u ys→v.ownBlock=none∨v.ownBlock≠u.ownBlock:=fun hu=>by
  cases hv:v.ownBlock with
  |none=>exact .inl rfl
  |some k =>
   refine .inr ?_;obtain ⟨cs,hcs⟩:=Kd.R_typed h1.top k hv;exact Kd.R_ne hu hcs (by decide)
 have grow:∀ {u:Value} {ys:List (List Value)} {b2:Nat},Kd.R (Kd.raw 1) 53 W b2 (fun _=>True) u ys→Kd.R (Kd.raw 1) 53 W2 b2 (fun _=>True) u ys:=fun hu=>by
  refine Kd.R_grown2 hu rfl hgr (fun k hk=>?_)
  rcases hty hu with h0 |h0
  ·rw [h0] at hk;exact absurd hk (by simp)
  ·rw [←hk];exact h0
 refine ⟨?_,fun b hb=>?_,fun b i hb hi=>?_,fun b i b' i' hb hi hb' hi' he=>?_,fun b i hb hi=>?_⟩
 ·rw [range_snoc,List.map_append];have:((List.range n).map fun b=>[if b=n then v5 else vs b])=(List.range n).map fun b=>[vs b]:=List.map_congr_left fun i hi=>by rw [if_neg (by have:=List.mem_range.mp hi;omega)]
  rw [this]
  simpa using ho
 ·by_cases hbn:b=n
  ·subst hbn;simp only [if_true];exact Kd.R_lower (grow hr.own) hbase
  ·simp only [if_neg hbn];exact grow (h1.rows b (by omega))
 ·by_cases hbn:b=n
  ·subst hbn;simp only [if_true];have hc:=hr.cells i hi;exact ks_grown hc hgr (ks_apart h1.top hc (by decide))
  ·simp only [if_neg hbn];have hc:=h1.cells b i (by omega) hi;exact ks_grown hc hgr (ks_apart h1.top hc (by decide))
 ·have lo:∀ b i,b<n→i<L b→H b i<wI.heap.size:=fun b i hb hi=>ks_lt (h.cells b i hb hi)
  by_cases hbn:b=n
  ·by_cases hbn':b'=n
   ·subst hbn;subst hbn';simp only [if_true] at he;exact ⟨rfl,hr.apart i i' hi hi' he⟩
   ·subst hbn;simp only [if_true,if_neg hbn'] at he;have:=lo b' i' (by omega) hi';have:=hr.low i hi;omega
  ·by_cases hbn':b'=n
   ·subst hbn';simp only [if_true,if_neg hbn] at he;have:=lo b i (by omega) hi;have:=hr.low i' hi';omega
   ·simp only [if_neg hbn,if_neg hbn'] at he;exact h.apart b i b' i' (by omega) hi (by omega) hi' he
 ·by_cases hbn:b=n
  ·subst hbn;simp only [if_true];have:=hr.low i hi;omega
  ·simp only [if_neg hbn];exact h.low b i (by omega) hi
end
theorem info53:(Try.prog.info? 53).map (fun i=>(i.zero,i.size,i.bytes))=some (some (.slice none 0 0),1,24):=by kernel_rfl
theorem info52:(Try.prog.info? 52).map (fun i=>(i.zero,i.size,i.bytes))=some (some (.slice none 0 0),1,24):=by kernel_rfl
def rowsOf (bs:List S43) (b:Nat):Nat:=(rd_T43 bs (b:Int)).f1.length+1
theorem nothing_calls (fn rg:Int) (Ab:Option Addr) (cb:Nat) (bs:List S43) (w:World) (hC:Kd.C k43 w Ab bs.length bs) (hf:FitC bs) :
  Calls Try.prog 46 #[.agg #[.int .i64 fn,.int .i64 rg,.slice Ab bs.length cb]] w fun e w'=>∃ v vs H,e= .returned v∧W3 w' w.heap.size bs.length v (rowsOf bs) vs H (fun _ _=>none')∧Below w.heap.size w w':=by
 have HC:=ak hC;have HFT:=ak hf;have hbm:bs.length≤9223372036854775807:=by have:=hf.blocks;omega
 clear hC hf
 go_enter Try.func46,Try.ntmps46
 go_wp2_with ((with_reducible refine gate_dst (N:=1) rfl ?_);refine zero_event 24 #[.int .i64 fn,.int .i64 rg,.slice Ab bs.length cb] rfl rfl qb ?_;intro g1 w1 hg1 hA1 hb1;have HG1:=ak hg1;have HA1:=ak hA1;have HB1:=ak hb1;clear hg1 hA1 hb1)
 have HC1:=ak (Kd.C_below HC.out HB1.out);have H0:Aside0 (Below w1.heap.size w1 w1∧W3 w1 w1.heap.size 0 (.slice none 0 0) (rowsOf bs) (fun _=> .slice none 0 0) (fun _ _=>0) (fun _ _=>none')):=⟨Below.refl _ _,⟨Kd.R_nil _ _ _ _ _,fun b hb=>by omega,fun b i hb=>by omega,fun b i b' i' hb=>by omega,fun b i hb=>by omega⟩⟩
 go_loopw [3,4] (fun v3 v4 wi=>∃ (b:Nat) (vs:Nat→Value) (H:Nat→Nat→Nat),b≤bs.length∧v4= .int .i64 b∧Aside0 (Below w1.heap.size w1 wi∧W3 wi w1.heap.size b v3 (rowsOf bs) vs H (fun _ _=>none'))) (fun _ v4 _=>bs.length-(intOf v4).toNat)
 case atStart=>exact ⟨0,_,_,by omega,rfl,H0⟩
 case round =>
  clear H0;obtain ⟨b,vs,H,hb,rfl,HW⟩:=hrel;obtain ⟨Av,cv,hv⟩:=Kd.R_slice HW.out.2.top;rw [List.length_map,List.length_range] at hv;subst hv;have c2:=pw_cell_below HW.out.1 (qj HA1 2:w1.cell? ⟨g1,2,none⟩=some (.slice Ab bs.length cb))
  by_cases hlt:b<bs.length
  ·obtain ⟨ad,A1,c1,A2,c2',e,hx0,hx1,hx2,l1,q1,l2,q2⟩:=rd_block HC1.out (Below.refl _ w1) b hlt;subst e;have HX1:=ak hx1;have hmx:(rd_T43 bs b).f1.length≤9223372036854775806:=by have:=HFT.out.ins b hlt;omega
   have HLI:=ak (HFT.out.ins b hlt);have HBL:=ak hlt;have HBK:=ak HFT.out.blocks;have HRO:Aside0 (rowsOf bs b=(rd_T43 bs b).f1.length+1):=⟨rfl⟩
   have hbi:(b:Int)<bs.length:=by omega
   generalize (rd_T43 bs b).f1=ins at HX1 hmx HLI HRO;clear hx0 hx1 hx2 l1 q1 l2 q2 hlt
   go_wp2_with fail
   have H0:Aside0 (RI wr wr (.slice none 0 0) 0 (fun _=>0)):=⟨Below.refl _ _,Kd.R_nil _ _ _ _ _,fun i hi=>by omega,fun i i' hi=>by omega,fun i hi=>by omega⟩
   clear c2;generalize wr=wI at *
   go_loopw [5,6] (fun v5 v6 wi=>∃ (i:Nat) (H1:Nat→Nat),i≤ins.length+1∧v6= .int .i64 i∧Aside0 (RI wI wi v5 i H1)) (fun _ v6 _=>ins.length+1-(intOf v6).toNat)
   case atStart=>exact ⟨0,_,by omega,rfl,H0⟩
   case round =>
    clear H0;obtain ⟨i,H1,hi,rfl,HR⟩:=hrel;obtain ⟨A5,c5,hv⟩:=Kd.R_slice HR.out.own;rw [List.length_map,List.length_range] at hv;subst hv;have c2:=pw_cell_below (below_step HW.out.1 HR.out.below) (qj HA1 2:w1.cell? ⟨g1,2,none⟩=some (.slice (some ad) bs.length cb));have hx1:=pw_cell_below (below_step HW.out.1 HR.out.below) HX1.out
    by_cases hlt:i≤ins.length
    ·have hlt2:(i:Int)≤ins.length:=by omega
     have hdl:decide ((i:Int)≤ins.length)=true:=decide_eq_true hlt2;have hmk:=makeB_run 512 (by omega);have HLY:Aside0 ((((List.range i).map fun k=>rowV (H1 k)).length+1)*24≤140737488355328):=⟨by rw [List.length_map,List.length_range];have:=HLI.out;omega⟩
     go_wp2_with (first
      |((with_reducible refine gate_dst (N:=26) rfl ?_);refine made_event 512 rfl rfl (by first |(go_simp;done) |(go_simp;rfl) |exact hmk _) ?_;intro g7 w7 hg7 hK7 hb7;have HG7:=ak hg7;have HK7:=ak hK7;have HB7:=ak hb7;have HR7:=ak (HR.out.next hb7);clear hg7 hK7 hb7)
      |((with_reducible refine gate_dst (N:=30) rfl ?_);at_builtin;refine Kd.R_append (Kd.raw 1) (w0:=wI) wI.heap.size rfl (.tmp 27) (.tmp 29) 52 53 (.slice none 0 0) 24 rfl Try.underlying52 info53 rfl (by decide) (by omega) _ ((List.range i).map fun k=>rowV (H1 k)) (rowV g7) (rowV g7) (fun _=>True) (fun _=>False) rfl rfl (raw_M _ rfl) (fun _ hk=>hk.elim) (fun _ _=>trivial) HR7.out.own HR7.out.below HR7.out.below.size HLY.out ?_;intro v8 w8 ho hb hg hat;have HP:=ak (HR.out.push HB7.out HK7.out HG7.out ho hb hg);clear ho hb hg hat))
     go_roundw
     case rel=>exact ⟨i+1,_,by omega,by go_num,HP⟩
     case measure=>simp [intOf];omega
    ·obtain rfl:i=ins.length+1:=by omega
     have hdl:decide (((ins.length+1:Nat):Int)≤ins.length)=false:=decide_eq_false (by omega);have HLY:Aside0 ((((List.range b).map fun b=>[vs b]).length+1)*24≤140737488355328):=⟨by rw [List.length_map,List.length_range];have:=HBL.out;have:=HBK.out;omega⟩
     have HN:=ak (HW.out.2.next HR.out.below);have HBX:=ak (below_step HW.out.1 HR.out.below)
     go_wp2_with ((with_reducible refine gate_dst (N:=34) rfl ?_);at_builtin;refine Kd.R_append (Kd.raw 1) (w0:=w1) w1.heap.size rfl (.tmp 31) (.tmp 33) 59 52 (.slice none 0 0) 24 rfl Try.underlying59 info52 rfl (by decide) (by omega) _ ((List.range b).map fun b=>[vs b]) [.slice A5 (ins.length+1) c5] [.slice A5 (ins.length+1) c5] (fun _=>True) (fun _=>False) rfl rfl (raw_M _ rfl) (fun _ hk=>hk.elim) (fun _ _=>trivial) HN.out.top HBX.out HBX.out.size HLY.out ?_;intro v8 w8 ho hb hg hat;have HP:=ak (HW.out.2.push (n:=b) (H1:=H1) (by rw [HRO.out];exact HR.out) HW.out.1.size ho hg);have HB8:=ak hb;clear ho hb hg hat)
     have hbl:=HBL.out
     go_roundw
     case rel=>exact ⟨b+1,_,_,by omega,by go_num,⟨HB8.out,HP.out⟩⟩
     case measure=>simp [intOf];omega
  ·obtain rfl:b=bs.length:=by omega
   go_wp2_with fail
   go_ret
   refine ⟨_,vs,H,rfl,⟨Kd.R_lower HW.out.2.top HB1.out.size,fun b hb=>Kd.R_lower (HW.out.2.rows b hb) HB1.out.size,HW.out.2.cells,HW.out.2.apart,fun b i hb hi=>Nat.le_trans HB1.out.size (HW.out.2.low b i hb hi)⟩,below_step HB1.out HW.out.1⟩
end Go.Proofs.Ytklknkfoafdgpaa.LiveNoth
