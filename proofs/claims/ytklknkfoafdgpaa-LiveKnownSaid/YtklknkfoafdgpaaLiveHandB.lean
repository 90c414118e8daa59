import Derived.Test.YtklknkfoafdgpaaLiveHandS
import Derived.StillTailTactics
namespace Go.Proofs.Ytklknkfoafdgpaa.LiveHandB
set_option maxHeartbeats 8000000
set_option maxRecDepth 100000
open RowKit YtklknkfoafdgpaaW.PrintWords YtklknkfoafdgpaaW.PrintLast YtklknkfoafdgpaaW.PrintMore
open PLiveKnown LiveT LiveB LiveInv LiveSet LiveAhead LiveEnd LiveSettled LiveCopied LiveAft LiveRunP LiveSame LiveFit LiveEvt LiveRefP LiveHandP LiveHandS
set_option linter.unusedVariables false
set_option linter.unusedSimpArgs false
def osI (l:List S47):List (List S82):=l.flatMap fun x=>(x.f3++m82)::osOf x.f7
def ssI (l:List S47):List (List S78):=l.map fun x=>x.f7++m78
theorem take_47 (l:List S47) (i:Nat) (hi:i<l.length):l.take (i+1)=l.take i++[rd_T47 l i]:=by
 rw [rd47 l i hi,List.take_add_one,List.getElem?_eq_getElem hi];rfl
theorem osI_snoc (l:List S47) (x:S47):osI (l++[x])=osI l++[x.f3++m82]++osOf x.f7:=by simp [osI]
theorem ssI_snoc (l:List S47) (x:S47):ssI (l++[x])=ssI l++[x.f7++m78]:=by simp [ssI]
theorem osI_le (l:List S47) (i:Nat) (hi:i<l.length):(osI (l.take i)).length+(1+(rd_T47 l i).f7.length)≤(osI l).length:=by
 have h:l=l.take (i+1)++l.drop (i+1):=(List.take_append_drop _ _).symm;have h2:(osI l).length=(osI (l.take (i+1))).length+(osI (l.drop (i+1))).length:=by
  rw [←List.length_append];unfold osI;rw [←List.flatMap_append,←h]
 have h3:(osI (l.take (i+1))).length=(osI (l.take i)).length+1+(rd_T47 l i).f7.length:=by
  rw [take_47 l i hi,osI_snoc]
  simp [osOf]
  omega
 omega
theorem mI_take (j:Nat) (hj:j<16):mI.take (j+1)=mI.take j++[-7-(j:Int)]:=by
 rw [List.take_add_one]
 congr 1
 simp [mI,hj]
theorem m47_take (j:Nat) (hj:j<16):m47.take (j+1)=m47.take j++[⟨-7,0,0,[],0,(j:Int),0,[]⟩]:=by
 rw [List.take_add_one]
 congr 1
 simp [m47,hj]
structure FitI (l:List S47):Prop where
 len:(l.length+16)*96≤140737488355328
 args:∀ k,k<l.length→((rd_T47 l k).f3.length+16)*16≤140737488355328
 exits:∀ k,k<l.length→FitS (rd_T47 l k).f7
section
variable {w0 W W1:World} {gh:Nat} {vO vS vN vI vB:Value} {oss:List (List S82)} {sss:List (List S78)} {nss:List (List Int)} {iss:List (List S47)} {bss:List S43} {lS lN lI lB:Nat}
theorem HD.over4 {β:Type} {d':Kd β} {e' b':Nat} {ok':Nat→Prop} {v:Value} {ys:List β} (h:HD w0 W gh vO vS vN vI vB oss sss nss iss bss lS lN lI lB) (hv:d'.R e' W b' ok' v ys) (hg:W.grownBy W1 v.ownBlock) (hb:Below w0.heap.size w0 W1)
  (h34:e'≠34) (hO:∀ q,q∈[44,82]→q≠e') (hS:(∀ q,q∈[45,78,82]→q≠e')∨∀ k,v.ownBlock=some k→lS≤k) (hN:(∀ q,q∈[25,3]→q≠e')∨∀ k,v.ownBlock=some k→lN≤k) (hl:∀ k,v.ownBlock=some k→lI≤k∧lB≤k) :
  HD w0 W1 gh vO vS vN vI vB oss sss nss iss bss lS lN lI lB:=
 ⟨hb,blk_grown h.blk hg (Kd.R_ne hv h.blk h34),Kd.R_over h.O hv hO hg,row_or h.S hv hg (hS.imp (fun h=>h) (fun h k hk he=>by have:=h k he.symm;omega)),
  row_or h.N hv hg (hN.imp (fun h=>h) (fun h k hk he=>by have:=h k he.symm;omega)),row_or h.I hv hg (.inr fun k hk he=>by have:=(hl k he.symm).1;omega),row_orS h.B hv hg (.inr fun k hk he=>by have:=(hl k he.symm).2;omega),h.low⟩
theorem HD.far4 {g t:Nat} {cs:Array Value} (h:HD w0 W gh vO vS vN vI vB oss sss nss iss bss lS lN lI lB) (hg:W.heap[g]? =some (.cells cs t (0,0))) (h0:w0.heap.size≤g) (h34:t≠34) (hO:∀ q,q∈[44,82]→q≠t)
  (hS:(∀ q,q∈[45,78,82]→q≠t)∨lS≤g) (hN:(∀ q,q∈[25,3]→q≠t)∨lN≤g) (hl:lI≤g∧lB≤g) (j:Nat) (u:Value):HD w0 (W.setCell ⟨g,j,none⟩ u) gh vO vS vN vI vB oss sss nss iss bss lS lN lI lB:=
 ⟨h.below.setCell h0 u,blk_far h.blk (fun he=>by
   have h2:=hg;rw [←show gh=g from he,h.blk] at h2;injection h2 with h2;injection h2 with _ h2;exact h34 h2.symm) u,row_set h.O hg (.inl hO) j u,row_set h.S hg (hS.imp (fun h=>h) (fun h k hk=>by omega)) j u,
  row_set h.N hg (hN.imp (fun h=>h) (fun h k hk=>by omega)) j u,row_set h.I hg (.inr fun k hk=>by omega) j u,row_setS h.B hg (.inr fun k hk=>by omega) j u,h.low⟩
end
theorem row_set3 {α:Type} {d:Kd α} {e b g t:Nat} {ok:Nat→Prop} {W:World} {u:Value} {xs:List α} {cs:Array Value} (h:d.R e W b ok u xs) (hb:W.heap[g]? =some (.cells cs t (0,0))) (ht:∀ q,q∈e::d.E→q≠t) (x y z:Value):d.R e (((W.setCell ⟨g,0,none⟩ x).setCell ⟨g,1,none⟩ y).setCell ⟨g,2,none⟩ z) b ok u xs:=
 Kd.R_set (Kd.R_set (Kd.R_set h hb ht 0 x) (blk_set hb 0 x) ht 1 y) (blk_set (blk_set hb 0 x) 1 y) ht 2 z
section
variable {w0 W W1:World} {gh:Nat} {vO vS vN vI vB:Value} {oss:List (List S82)} {sss:List (List S78)} {nss:List (List Int)} {iss:List (List S47)} {bss:List S43} {lS lN lI lB:Nat}
theorem HD.far43 {g:Nat} {cs:Array Value} (h:HD w0 W gh vO vS vN vI vB oss sss nss iss bss lS lN lI lB) (hg:W.heap[g]? =some (.cells cs 43 (0,0))) (h0:w0.heap.size≤g) (hl:lB≤g) (j:Nat) (u:Value):HD w0 (W.setCell ⟨g,j,none⟩ u) gh vO vS vN vI vB oss sss nss iss bss lS lN lI lB:=
 ⟨h.below.setCell h0 u,blk_far h.blk (p:=⟨g,j,none⟩) (blk_ne h.blk hg (by decide)) u,Kd.R_set h.O hg (by decide) j u,Kd.R_set h.S hg (by decide) j u,Kd.R_set h.N hg (by decide) j u,Kd.R_set h.I hg (by decide) j u,Kd.S_far h.B (fun k hk=>by show k≠g;omega) u,h.low⟩
theorem HD.most (h:HD w0 W gh vO vS vN vI vB oss sss nss iss bss lS lN lI lB):HD w0 W gh vO vS vN vI vB oss sss nss iss bss W.heap.size W.heap.size W.heap.size lB:=
 ⟨h.below,h.blk,h.O,h.bound.S,h.bound.N,h.bound.I,h.B,h.low⟩
end
structure NS (w0 wE W:World) (gh g3 g4:Nat) (vO vS vN vI vB:Value) (oss:List (List S82)) (sss:List (List S78)) (nss:List (List Int)) (iss:List (List S47)) (bss:List S43) (lS lB:Nat) (c3:Array Value) (v:Value) (ys:List Int):Prop where
 hd:HD w0 W gh vO vS vN vI vB oss sss nss iss bss lS wE.heap.size wE.heap.size lB
 b3:W.heap[g3]? =some (.cells c3 43 (0,0))
 b4:W.heap[g4]? =some (.cells #[.int .i64 0,.slice none 0 0,.slice none 0 0] 43 (0,0))
 out:Kd.R (Kd.int .i64) 3 W wE.heap.size (fun _=>True) v ys
 kp:Kp [34,44,45,25,41] wE W
 lim:lB≤wE.heap.size
 low:w0.heap.size≤wE.heap.size
section
variable {w0 wE W W1:World} {gh g3 g4:Nat} {vO vS vN vI vB v:Value} {oss:List (List S82)} {sss:List (List S78)} {nss:List (List Int)} {iss:List (List S47)} {bss:List S43} {lS lB:Nat} {c3:Array Value} {ys:List Int}
theorem NS.next (h:NS w0 wE W gh g3 g4 vO vS vN vI vB oss sss nss iss bss lS lB c3 v ys) (hb:Below W.heap.size W W1):NS w0 wE W1 gh g3 g4 vO vS vN vI vB oss sss nss iss bss lS lB c3 v ys:=
 ⟨h.hd.next hb,(hb.block g3 (blk_lt h.b3)).trans h.b3,(hb.block g4 (blk_lt h.b4)).trans h.b4,Kd.R_below h.out hb,h.kp.trans (Kp.of_below _ hb),h.lim,h.low⟩
theorem NS.push {v1:Value} {ys1:List Int} (h:NS w0 wE W gh g3 g4 vO vS vN vI vB oss sss nss iss bss lS lB c3 v ys) (hO:Kd.R (Kd.int .i64) 3 W1 wE.heap.size (fun _=>True) v1 ys1) (hg:W.grownBy W1 v.ownBlock) :
  NS w0 wE W1 gh g3 g4 vO vS vN vI vB oss sss nss iss bss lS lB c3 v1 ys1:=
 ⟨HD.over4 h.hd h.out hg (h.hd.below.grown hg h.hd.below.size (fun k hk=>Nat.le_trans h.low (Kd.R_base h.out k hk))) (by decide) (by decide) (.inl (by decide)) (.inr fun k hk=>Kd.R_base h.out k hk) (fun k hk=>by have:=Kd.R_base h.out k hk;have:=h.lim;exact ⟨by omega,by omega⟩),
  blk_grown h.b3 hg (Kd.R_ne h.out h.b3 (by decide)),blk_grown h.b4 hg (Kd.R_ne h.out h.b4 (by decide)),hO,h.kp.far_row hg (Kd.R_base h.out),h.lim,h.low⟩
end
structure IS (w0 wE W:World) (gh g3 g4:Nat) (vO vS vN vI vB:Value) (oss:List (List S82)) (sss:List (List S78)) (nss:List (List Int)) (iss:List (List S47)) (bss:List S43) (lS lN lB:Nat) (c3:Array Value) (vx:Value) (nx:List Int) (lo:Nat) (v:Value) (ys:List S47):Prop where
 hd:HD w0 W gh vO vS vN vI vB oss sss nss iss bss lS lN wE.heap.size lB
 b3:W.heap[g3]? =some (.cells c3 43 (0,0))
 b4:W.heap[g4]? =some (.cells #[.int .i64 0,.slice none 0 0,.slice none 0 0] 43 (0,0))
 nxt:Kd.R (Kd.int .i64) 3 W wE.heap.size (fun _=>True) vx nx
 out:Kd.R k47 47 W wE.heap.size (fun k=>k<lo) v ys
 kp:Kp [34,44,45,25,41] wE W
 lim:lB≤wE.heap.size
 limN:lN≤W.heap.size
 low:w0.heap.size≤wE.heap.size
section
variable {w0 wE W W1:World} {gh g3 g4:Nat} {vO vS vN vI vB v vx:Value} {oss:List (List S82)} {sss:List (List S78)} {nss:List (List Int)} {iss:List (List S47)} {bss:List S43} {lS lN lB lo:Nat} {c3:Array Value} {nx:List Int} {ys:List S47}
theorem IS.next (h:IS w0 wE W gh g3 g4 vO vS vN vI vB oss sss nss iss bss lS lN lB c3 vx nx lo v ys) (hb:Below W.heap.size W W1):IS w0 wE W1 gh g3 g4 vO vS vN vI vB oss sss nss iss bss lS lN lB c3 vx nx lo v ys:=
 ⟨h.hd.next hb,(hb.block g3 (blk_lt h.b3)).trans h.b3,(hb.block g4 (blk_lt h.b4)).trans h.b4,Kd.R_below h.nxt hb,Kd.R_below h.out hb,h.kp.trans (Kp.of_below _ hb),h.lim,Nat.le_trans h.limN hb.size,h.low⟩
theorem IS.bound (h:IS w0 wE W gh g3 g4 vO vS vN vI vB oss sss nss iss bss lS lN lB c3 vx nx lo v ys):IS w0 wE W gh g3 g4 vO vS vN vI vB oss sss nss iss bss lS lN lB c3 vx nx W.heap.size v ys:=
 ⟨h.hd,h.b3,h.b4,h.nxt,Kd.R_mono (Kd.R_bound h.out) (fun _ hk=>hk.2.2.1),h.kp,h.lim,h.limN,h.low⟩
theorem IS.pushO {v1:Value} {oss1:List (List S82)} (h:IS w0 wE W gh g3 g4 vO vS vN vI vB oss sss nss iss bss lS lN lB c3 vx nx lo v ys) (hO:Kd.R (Kd.slice 82 k82) 44 W1 w0.heap.size (fun _=>True) v1 oss1) (hb:Below w0.heap.size w0 W1) (hg:W.grownBy W1 vO.ownBlock) :
  IS w0 wE (W1.setCell ⟨gh,3,none⟩ v1) gh g3 g4 v1 vS vN vI vB oss1 sss nss iss bss lS lN lB c3 vx nx lo v ys:=by
 have h34:=blk_grown h.hd.blk hg (Kd.R_ne h.hd.O h.hd.blk (by decide));have h3:=blk_grown h.b3 hg (Kd.R_ne h.hd.O h.b3 (by decide));have h4:=blk_grown h.b4 hg (Kd.R_ne h.hd.O h.b4 (by decide))
 refine ⟨h.hd.pushO hO hb hg,blk_far h3 (p:=⟨gh,3,none⟩) (blk_ne h3 h34 (by decide)) v1,blk_far h4 (p:=⟨gh,3,none⟩) (blk_ne h4 h34 (by decide)) v1,Kd.R_set (Kd.R_over h.nxt h.hd.O (by decide) hg) h34 (by decide) 3 v1,Kd.R_set (Kd.R_over h.out h.hd.O (by decide) hg) h34 (by decide) 3 v1,(h.kp.trans (Kp.of_grown hg fun k hk=>?_)).set h34 (by decide) 3 v1,h.lim,by have:=h.limN;have:=hg.size;simp;omega,h.low⟩;obtain ⟨cs,hc⟩:=Kd.R_typed h.hd.O k hk;exact ⟨cs,44,hc,by decide⟩
theorem IS.far {g:Nat} {cs:Array Value} (h:IS w0 wE W gh g3 g4 vO vS vN vI vB oss sss nss iss bss lS lN lB c3 vx nx lo v ys) (hg:W.heap[g]? =some (.cells cs 47 (0,0))) (h0:wE.heap.size≤g) (hl:lo≤g) (j:Nat) (u:Value):IS w0 wE (W.setCell ⟨g,j,none⟩ u) gh g3 g4 vO vS vN vI vB oss sss nss iss bss lS lN lB c3 vx nx lo v ys:=
 ⟨HD.far4 h.hd hg (Nat.le_trans h.low h0) (by decide) (by decide) (.inl (by decide)) (.inl (by decide)) ⟨h0,Nat.le_trans h.lim h0⟩ j u,blk_far h.b3 (p:=⟨g,j,none⟩) (blk_ne h.b3 hg (by decide)) u,blk_far h.b4 (p:=⟨g,j,none⟩) (blk_ne h.b4 hg (by decide)) u,
  Kd.R_set h.nxt hg (by decide) j u,Kd.R_far h.out (fun k hk=>by show k≠g;omega) u,h.kp.far_set h0 j u,h.lim,by have:=h.limN;simpa using this,h.low⟩
theorem IS.pushOut {v1:Value} {ys1:List S47} (h:IS w0 wE W gh g3 g4 vO vS vN vI vB oss sss nss iss bss lS lN lB c3 vx nx lo v ys) (hO:Kd.R k47 47 W1 wE.heap.size (fun _=>True) v1 ys1) (hg:W.grownBy W1 v.ownBlock) :
  IS w0 wE W1 gh g3 g4 vO vS vN vI vB oss sss nss iss bss lS lN lB c3 vx nx W1.heap.size v1 ys1:=
 ⟨HD.over4 h.hd h.out hg (h.hd.below.grown hg h.hd.below.size (fun k hk=>Nat.le_trans h.low (Kd.R_base h.out k hk))) (by decide) (by decide) (.inl (by decide)) (.inl (by decide)) (fun k hk=>by have:=Kd.R_base h.out k hk;have:=h.lim;exact ⟨by omega,by omega⟩),
  blk_grown h.b3 hg (Kd.R_ne h.out h.b3 (by decide)),blk_grown h.b4 hg (Kd.R_ne h.out h.b4 (by decide)),Kd.R_over h.nxt h.out (by decide) hg,Kd.R_mono (Kd.R_bound hO) (fun _ hk=>hk.2.2.1),h.kp.far_row hg (Kd.R_base h.out),h.lim,Nat.le_trans h.limN hg.size,h.low⟩
theorem IS.shapes {vO1 vS1:Value} {oss1:List (List S82)} {sss1:List (List S78)} {lS1:Nat} (h:IS w0 wE W gh g3 g4 vO vS vN vI vB oss sss nss iss bss lS lN lB c3 vx nx lo v ys) (hd:HD w0 W1 gh vO1 vS1 vN vI vB oss1 sss1 nss iss bss lS1 lN wE.heap.size lB) (hk:Kp [34,44,45] W W1) :
  IS w0 wE W1 gh g3 g4 vO1 vS1 vN vI vB oss1 sss1 nss iss bss lS1 lN lB c3 vx nx lo v ys:=
 ⟨hd,hk.blk h.b3 (by decide),hk.blk h.b4 (by decide),hk.row h.nxt (by decide),hk.row h.out (by decide),h.kp.trans ⟨hk.size,fun k cs t z hc ht=>hk.keep k cs t z hc (fun hm=>ht (by simp at hm ⊢; omega))⟩,h.lim,Nat.le_trans h.limN hk.size,h.low⟩
end
theorem hblock_calls (w0 w:World) (gh:Nat) (vO vS vN vI vB:Value) (oss:List (List S82)) (sss:List (List S78)) (nss:List (List Int)) (iss:List (List S47)) (bss:List S43) (lS lN lI lB:Nat) (h:HD w0 w gh vO vS vN vI vB oss sss nss iss bss lS lN lI lB)
  (hlim:lB≤w.heap.size) (pc:Int) (ins:List S47) (nx:List Int) (A1 A2:Option Addr) (c1 c2:Nat) (hC1:Kd.C k47 w0 A1 ins.length ins) (hC2:Kd.C (Kd.int .i64) w0 A2 nx.length nx) (hf:FitI ins) (hn:(nx.length+16)*8≤140737488355328)
  (hO:(oss.length+(osI ins).length)*24≤140737488355328) (hS:(sss.length+ins.length)*24≤140737488355328) (hN:(nss.length+1)*24≤140737488355328) (hI:(iss.length+1)*24≤140737488355328) :
  Calls Try.prog 27 #[.pointer (some ⟨gh,0,none⟩),.agg #[.int .i64 pc,.slice A1 ins.length c1,.slice A2 nx.length c2]] w fun e w'=>∃ v1 v2 vO1 vS1 vN1 vI1,e= .returned (.agg #[.int .i64 pc,v1,v2])∧HD w0 w' gh vO1 vS1 vN1 vI1 vB (oss++osI ins) (sss++ssI ins) (nss++[nx++mI]) (iss++[ins++m47]) bss w'.heap.size w'.heap.size w'.heap.size lB∧Kd.R k47 47 w' w.heap.size (fun _=>True) v1 ins∧Kd.R (Kd.int .i64) 3 w' w.heap.size (fun _=>True) v2 nx∧Kp [34,44,45,25,41] w w':=by
 have HC1:=ak hC1;have HC2:=ak hC2;have HFI:=ak hf;have HFN:=ak hn;have HLO:=ak hO;have HLS:=ak hS;have HLN:=ak hN;have HLI:=ak hI;have hm1:ins.length≤9223372036854775807:=by have:=hf.len;omega
 have hm2:nx.length≤9223372036854775807:=by omega
 have HW0:=ak h.below.size;have HD0:Aside0 (HD w0 w gh vO vS vN vI vB oss sss nss iss bss w.heap.size w.heap.size w.heap.size lB):=⟨⟨h.below,h.blk,h.O,h.bound.S,h.bound.N,h.bound.I,h.B,h.low⟩⟩
 have HLM:=ak hlim;clear hC1 hC2 hf hn hO hS hN hI h hlim
 go_enter Try.func27,Try.ntmps27
 go_wp2_with (first
  |((with_reducible refine gate_dst (N:=3) rfl ?_);refine LiveRunW.zero_event 43 #[.int .i64 pc,.slice A1 ins.length c1,.slice A2 nx.length c2] rfl rfl qb ?_;intro g3 w1 hg3 hA3 hb1;have HG3:=ak hg3;have HA3:=ak hA3;have HB1:=ak hb1;clear hg3 hA3 hb1)
  |((with_reducible refine gate_dst (N:=4) rfl ?_);refine LiveRunW.zero_event 43 #[.int .i64 0,.slice none 0 0,.slice none 0 0] rfl rfl qb ?_;intro g4 w2 hg4 hA4 hb2;have HG4:=ak (Nat.le_trans HB1.out.size hg4);have HA4:=ak hA4;have HB2:=ak (below_step HB1.out hb2);have HA32:=ak ((hb2.block g3 (blk_lt HA3.out)).trans HA3.out);clear hg4 hA4 hb2))
 have H0:Aside0 (NS w0 w w2 gh g3 g4 vO vS vN vI vB oss sss nss iss bss w.heap.size lB #[.int .i64 pc,.slice A1 ins.length c1,.slice A2 nx.length c2] (.slice none 0 0) (nx.take 0)):=⟨⟨HD0.out.next HB2.out,HA32.out,HA4.out,Kd.R_nil _ _ _ _ _,Kp.of_below _ HB2.out,HLM.out,HW0.out⟩⟩
 clear HA3 HB1 HA4 HB2 HA32
 go_loopw [5,6] (fun v5 v6 wi=>∃ (i:Nat),i≤nx.length∧v6= .int .i64 i∧Aside0 (NS w0 w wi gh g3 g4 vO vS vN vI vB oss sss nss iss bss w.heap.size lB #[.int .i64 pc,.slice A1 ins.length c1,.slice A2 nx.length c2] v5 (nx.take i))) (fun _ v6 _=>nx.length-(intOf v6).toNat)
 case atStart=>exact ⟨0,by omega,rfl,H0⟩
 case round =>
  clear H0;obtain ⟨i,hi,rfl,HH⟩:=hrel;obtain ⟨Ay,cy,hvy⟩:=Kd.R_slice HH.out.out;subst hvy;have hyl:(nx.take i).length=i:=by rw [List.length_take];omega
  have u2:wr.cell? ⟨g3,2,none⟩=some (.slice A2 nx.length c2):=(blk_cell HH.out.b3 2).trans rfl
  by_cases hlt:i<nx.length
  ·obtain ⟨a2,e,h2⟩:=Kd.at_int HC2.out (i:Int) (by omega) (by omega);subst e;rw [rdI nx i hlt] at h2;simp only [Int.toNat_natCast] at h2;replace h2:=pw_cell_below HH.out.hd.below h2;have HT:Aside0 (nx.take (i+1)=nx.take i++[nx[i]]):=⟨by rw [List.take_add_one,List.getElem?_eq_getElem hlt];rfl⟩
   have HLE:Aside0 (((nx.take i).length+1)*8≤140737488355328):=⟨by have:=HFN.out;omega⟩
   have HLT:=ak hlt;have hlti:(i:Int)<nx.length:=by omega
   generalize nx[i]=x at *;generalize nx.take i=ys at *;clear hyl hlt hi
   go_wp2_with (first
    |((with_reducible refine gate_dst (N:=27) rfl ?_);at_builtin;refine Kd.R_append (Kd.int .i64) (w0:=wr) w.heap.size rfl (.tmp 20) (.tmp 26) 25 3 (.int .i64 0) 8 rfl Try.underlying25 infoI rfl (by decide) (by omega) (.slice Ay ys.length cy) ys x [.int .i64 x] (fun _=>True) (fun _=>False) rfl rfl rfl (fun _ hk=>hk.elim) (fun _ _=>trivial) HH.out.out (Below.refl _ _) HH.out.kp.size HLE.out ?_;intro v12 w12 ho hb hg hat;have HP:=ak (HH.out.push ho hg);clear ho hb hg hat u2 h2))
   go_roundw
   case rel=>exact ⟨i+1,by have:=HLT.out;omega,by go_num,⟨by rw [HT.out];exact HP.out⟩⟩
   case measure=>simp [intOf];omega
  ·obtain rfl:i=nx.length:=by omega
   rw [List.take_length] at HH ⊢;clear hlt hi hyl
   go_wp2_with fail
   clear u2;have H0:Aside0 (NS w0 w wr gh g3 g4 vO vS vN vI vB oss sss nss iss bss w.heap.size lB #[.int .i64 pc,.slice A1 ins.length c1,.slice A2 nx.length c2] (.slice Ay nx.length cy) (nx++mI.take 0)):=⟨by rw [List.take_zero,List.append_nil];exact HH.out⟩
   clear HH
   go_loopw [5,7] (fun v5 v7 wi=>∃ (j:Nat),j≤16∧v7= .int .i64 j∧Aside0 (NS w0 w wi gh g3 g4 vO vS vN vI vB oss sss nss iss bss w.heap.size lB #[.int .i64 pc,.slice A1 ins.length c1,.slice A2 nx.length c2] v5 (nx++mI.take j))) (fun _ v7 _=>16-(intOf v7).toNat)
   case atStart=>exact ⟨0,by omega,rfl,H0⟩
   case round =>
    clear H0;obtain ⟨j,hj,rfl,HH⟩:=hrel;have hml:mI.length=16:=rfl;have hyl:(nx++mI.take j).length=nx.length+j:=by rw [List.length_append,List.length_take];omega
    obtain ⟨Ay',cy',hvy⟩:=Kd.R_slice HH.out.out;subst hvy
    by_cases hlt:j<16
    ·have HM:=ak (mI_take j hlt);have HLY:Aside0 (((nx++mI.take j).length+1)*8≤140737488355328):=⟨by have:=HFN.out;omega⟩
     generalize hz:nx++mI.take j=ys at HH HLY ⊢;have HY:=ak hz;have HJ:=ak hlt;have hj16:(j:Int)<16:=by omega
     clear hz hml hyl hlt hj
     go_wp2_with (first
      |((with_reducible refine gate_dst (N:=36) rfl ?_);at_builtin;refine Kd.R_append (Kd.int .i64) (w0:=wr) w.heap.size rfl (.tmp 32) (.tmp 35) 25 3 (.int .i64 0) 8 rfl Try.underlying25 infoI rfl (by decide) (by omega) (.slice Ay' ys.length cy') ys (-7-(j:Int)) [.int .i64 (-7-(j:Int))] (fun _=>True) (fun _=>False) rfl rfl rfl (fun _ hk=>hk.elim) (fun _ _=>trivial) HH.out.out (Below.refl _ _) HH.out.kp.size HLY.out ?_;intro v12 w12 ho hb hg hat;have HP:=ak (HH.out.push ho hg);clear ho hb hg hat))
     go_roundw
     case rel=>exact ⟨j+1,by have:=HJ.out;omega,by go_num,⟨by rw [HM.out,←List.append_assoc,HY.out];exact HP.out⟩⟩
     case measure=>simp [intOf];omega
    ·obtain rfl:j=16:=by omega
     have hm:mI.take 16=mI:=rfl;rw [hm] at HH ⊢;obtain ⟨yq,hyq⟩:∃ yq,yq=nx++mI:=⟨_,rfl⟩
     rw [←hyq] at HH ⊢;have HYQ:=ak hyq;have HYL:Aside0 (nx.length≤yq.length):=⟨by rw [hyq];simp⟩
     obtain ⟨Aq,cq,hvq⟩:=Kd.R_slice HH.out.hd.N;subst hvq;have h5:wr.cell? ⟨gh,5,none⟩=some (.slice Aq nss.length cq):=(blk_cell HH.out.hd.blk 5).trans rfl;clear hyq hm hyl hml hlt hj
     go_upto_region 11 with (first
      |((with_reducible refine gate_dst (N:=44) rfl ?_);at_builtin;refine Kd.R_append (Kd.slice 3 (Kd.int .i64)) (w0:=w0) w0.heap.size rfl (.tmp 41) (.tmp 43) 31 25 (.slice none 0 0) 24 rfl Try.underlying31 infoN rfl (by decide) (by omega) (.slice Aq nss.length cq) nss yq [.slice Ay' yq.length cy'] (fun _=>True) (fun k=>w.heap.size≤k) rfl rfl ?aP ?aK ?aF (Kd.R_mono HH.out.hd.N (fun _ _=>trivial)) HH.out.hd.below HH.out.hd.below.size HLN.out ?_;(case aP=>exact ⟨_,rfl,Kd.R_lower (Kd.R_reok rfl HH.out.out (fun b hb=>Kd.R_base HH.out.out b hb)) HW0.out⟩);(case aK=>exact fun k hk=>⟨trivial,fun he=>by have:=HH.out.hd.N.1 k he.symm;omega⟩);(case aF=>exact fun _ _=>trivial);intro v9 w9 ho9 hb9 hg9 hat9;obtain ⟨A9,c9,hv9⟩:=Kd.R_slice ho9;rw [List.length_append,List.length_singleton] at hv9;subst hv9;have HD9:=ak (HH.out.hd.pushN ho9 hb9 hg9);have H34:=blk_grown HH.out.hd.blk hg9 (Kd.R_ne HH.out.hd.N HH.out.hd.blk (by decide));have HKP:Aside0 (Kp [34,44,45,25,41] w (w9.setCell ⟨gh,5,none⟩ (.slice A9 (nss.length+1) c9))):=(⟨(HH.out.kp.trans (Kp.of_grown hg9 fun k hk=>(by obtain ⟨cs,hc⟩:=Kd.R_typed HH.out.hd.N k hk;exact ⟨cs,25,hc,by decide⟩))).set H34 (by decide) 5 _⟩);have HO9:=ak (Kd.R_set (Kd.R_over HH.out.out HH.out.hd.N (by decide) hg9) H34 (by decide) 5 (.slice A9 (nss.length+1) c9));have hb3:=blk_grown HH.out.b3 hg9 (Kd.R_ne HH.out.hd.N HH.out.b3 (by decide));have hb4:=blk_grown HH.out.b4 hg9 (Kd.R_ne HH.out.hd.N HH.out.b4 (by decide));have HB3:=ak (blk_far hb3 (p:=⟨gh,5,none⟩) (blk_ne hb3 H34 (by decide)) (.slice A9 (nss.length+1) c9));have HB4:=ak (blk_far hb4 (p:=⟨gh,5,none⟩) (blk_ne hb4 H34 (by decide)) (.slice A9 (nss.length+1) c9));have HSZ:Aside0 (w9.heap.size≤(w9.setCell ⟨gh,5,none⟩ (.slice A9 (nss.length+1) c9)).heap.size):=(⟨by simp⟩);have t3:w9.cell? ⟨gh,5,none⟩=some (.slice Aq nss.length cq):=(qk H34 5);have y3:=blk_frozen H34 5;clear ho9 hb9 hg9 hat9 h5 H34 hb3 hb4))
     clear t3 y3
     have HIS:Aside0 (IS w0 w (w9.setCell ⟨gh,5,none⟩ (.slice A9 (nss.length+1) c9)) gh g3 g4 vO vS (.slice A9 (nss.length+1) c9) vI vB (oss++osI (ins.take 0)) (sss++ssI (ins.take 0)) (nss++[yq]) iss bss w.heap.size w9.heap.size lB #[.int .i64 pc,.slice A1 ins.length c1,.slice A2 nx.length c2] (.slice Ay' yq.length cy') yq w.heap.size (.slice none 0 0) (ins.take 0)):=⟨⟨by rw [List.take_zero];show HD _ _ _ _ _ _ _ _ (oss++[]) (sss++[]) _ _ _ _ _ _ _;rw [List.append_nil,List.append_nil];exact HD9.out,HB3.out,HB4.out,HO9.out,Kd.R_nil _ _ _ _ _,HKP.out,HLM.out,HSZ.out,HW0.out⟩⟩
     generalize w9.setCell ⟨gh,5,none⟩ (.slice A9 (nss.length+1) c9)=w10 at HIS ⊢;clear HH HD9 HKP HO9 HB3 HB4 HSZ;generalize hns:nss++[yq]=nss1 at HIS;have HNS:=ak hns;clear hns;generalize w9.heap.size=lN1 at HIS;clear w9
     go_wp2_with fail
     have HIS:Aside0 (IS w0 w w10 gh g3 g4 vO vS (.slice A9 (nss.length+1) c9) vI vB (oss++osI (ins.take 0)) (sss++ssI (ins.take 0)) nss1 iss bss w.heap.size lN1 lB #[.int .i64 pc,.slice A1 ins.length c1,.slice A2 nx.length c2] (.slice Ay' yq.length cy') yq w10.heap.size (.slice none 0 0) (ins.take 0)):=⟨HIS.out.bound⟩
     generalize (Value.slice A9 (nss.length+1) c9)=vN1 at HIS
     go_loopw [8,9] (fun v8 v9 wi=>∃ (i:Nat) (vO1 vS1:Value) (lS1:Nat),i≤ins.length∧v9= .int .i64 i∧Aside0 (IS w0 w wi gh g3 g4 vO1 vS1 vN1 vI vB (oss++osI (ins.take i)) (sss++ssI (ins.take i)) nss1 iss bss lS1 lN1 lB #[.int .i64 pc,.slice A1 ins.length c1,.slice A2 nx.length c2] (.slice Ay' yq.length cy') yq wi.heap.size v8 (ins.take i))) (fun _ v9 _=>ins.length-(intOf v9).toNat)
     case atStart=>exact ⟨0,vO,vS,_,by omega,rfl,HIS⟩
     case round =>
      clear HIS;obtain ⟨i,vO1,vS1,lS1,hi,rfl,HH⟩:=hrel;obtain ⟨Az,cz,hvz⟩:=Kd.R_slice HH.out.out;obtain ⟨Ao,co,hvo⟩:=Kd.R_slice HH.out.hd.O;subst hvz hvo;have hyl:(ins.take i).length=i:=by rw [List.length_take];omega
      have u1:wr.cell? ⟨g3,1,none⟩=some (.slice A1 ins.length c1):=(blk_cell HH.out.b3 1).trans rfl
      by_cases hlt:i<ins.length
      ·obtain ⟨ad3,A3,d3,A7,d7,e3,hin,hrin⟩:=rd_ins HC1.out i hlt;subst e3;have HT:=ak (take_47 ins i hlt);have HLT:=ak hlt;have hii:(i:Int)<ins.length:=by omega
       have hsz:=osI_le ins i hlt;have hol:(oss++osI (ins.take i)).length=oss.length+(osI (ins.take i)).length:=List.length_append;have hsl:(sss++ssI (ins.take i)).length=sss.length+i:=by simp [ssI];omega
       have HLE:Aside0 (((oss++osI (ins.take i)).length+1)*24≤140737488355328):=⟨by have:=HLO.out;omega⟩
       have HLE2:Aside0 ((((oss++osI (ins.take i)).length+1)+(rd_T47 ins i).f7.length)*24≤140737488355328):=⟨by have:=HLO.out;omega⟩
       have HLE3:Aside0 (((sss++ssI (ins.take i)).length+1)*24≤140737488355328):=⟨by have:=HLS.out;omega⟩
       have HLY:Aside0 (((ins.take i).length+1)*96≤140737488355328):=⟨by have:=HFI.out.len;omega⟩
       have HFA:=ak (HFI.out.args i hlt);have HFX:=ak (HFI.out.exits i hlt);clear hsz hol hsl hyl hlt hi;generalize rd_T47 ins i=x at *;generalize hz1:oss++osI (ins.take i)=zs at HH HLE HLE2 ⊢;generalize hz2:sss++ssI (ins.take i)=ts at HH HLE3;have HZ1:=ak hz1;have HZ2:=ak hz2;clear hz1 hz2;generalize hz3:ins.take i=ys at *;have HZ3:=ak hz3;clear hz3;have HIN:Aside0 (∀ W,Below w0.heap.size w0 W→InsAt W (ad3.add (i*8)) x A3 d3 A7 d7):=⟨fun W hW=>hin.below hW⟩
       have HRN:=ak hrin;obtain ⟨q0,q1,q2,q3,q4,q5,q6,q7⟩:=HIN.out wr HH.out.hd.below;clear hin hrin
       go_upto_region 16 with (first
        |((with_reducible refine gate_dst (N:=10) rfl ?_);refine box47_zero_event rfl rfl rfl ?_;intro g10 w12 hg12 hA12 hb12;have HG10:=ak hg12;have HA12:=ak hA12;have HB12:=ak hb12;have z0:w12.cell? ⟨g10,0,none⟩=some (.int .i64 0):=(qk hA12 0);have y0:=blk_frozen hA12 0;have z1:w12.cell? ⟨g10,1,none⟩=some (.int .i64 0):=(qk hA12 1);have y1:=blk_frozen hA12 1;have z2:w12.cell? ⟨g10,2,none⟩=some (.int .i64 0):=(qk hA12 2);have y2:=blk_frozen hA12 2;have z3:w12.cell? ⟨g10,3,none⟩=some (.slice none 0 0):=(qk hA12 3);have y3:=blk_frozen hA12 3;have z4:w12.cell? ⟨g10,4,none⟩=some (.int .i64 0):=(qk hA12 4);have y4:=blk_frozen hA12 4;have z5:w12.cell? ⟨g10,5,none⟩=some (.int .i64 0):=(qk hA12 5);have y5:=blk_frozen hA12 5;have z6:w12.cell? ⟨g10,6,none⟩=some (.int .i64 0):=(qk hA12 6);have y6:=blk_frozen hA12 6;have z7:w12.cell? ⟨g10,7,none⟩=some (.slice none 0 0):=(qk hA12 7);have y7:=blk_frozen hA12 7;clear hg12 hA12 hb12))
       have HM:Aside0 (((((((((w12.setCell ⟨g10,0,none⟩ (.int .i64 x.f0)).setCell ⟨g10,1,none⟩ (.int .i64 x.f1)).setCell ⟨g10,2,none⟩ (.int .i64 x.f2)).setCell ⟨g10,3,none⟩ (.slice A3 x.f3.length d3)).setCell ⟨g10,4,none⟩ (.int .i64 x.f4)).setCell ⟨g10,5,none⟩ (.int .i64 x.f5)).setCell ⟨g10,6,none⟩ (.int .i64 x.f6)).setCell ⟨g10,7,none⟩ (.slice A7 x.f7.length d7)).heap[g10]? =some (.cells (row47 x (.slice A3 x.f3.length d3) (.slice A7 x.f7.length d7)) 47 (0,0))):=⟨put47_blk HA12.out rfl _ _ _ _ _ _ _ _⟩
       have HWB:Aside0 (Below wr.heap.size wr ((((((((w12.setCell ⟨g10,0,none⟩ (.int .i64 x.f0)).setCell ⟨g10,1,none⟩ (.int .i64 x.f1)).setCell ⟨g10,2,none⟩ (.int .i64 x.f2)).setCell ⟨g10,3,none⟩ (.slice A3 x.f3.length d3)).setCell ⟨g10,4,none⟩ (.int .i64 x.f4)).setCell ⟨g10,5,none⟩ (.int .i64 x.f5)).setCell ⟨g10,6,none⟩ (.int .i64 x.f6)).setCell ⟨g10,7,none⟩ (.slice A7 x.f7.length d7))):=⟨LiveRunW.put47_below HB12.out HG10.out _ _ _ _ _ _ _ _⟩
       generalize ((((((((w12.setCell ⟨g10,0,none⟩ (.int .i64 x.f0)).setCell ⟨g10,1,none⟩ (.int .i64 x.f1)).setCell ⟨g10,2,none⟩ (.int .i64 x.f2)).setCell ⟨g10,3,none⟩ (.slice A3 x.f3.length d3)).setCell ⟨g10,4,none⟩ (.int .i64 x.f4)).setCell ⟨g10,5,none⟩ (.int .i64 x.f5)).setCell ⟨g10,6,none⟩ (.int .i64 x.f6)).setCell ⟨g10,7,none⟩ (.slice A7 x.f7.length d7))=wm at HM HWB ⊢;clear z0 z1 z2 z3 z4 z5 z6 z7 y0 y1 y2 y3 y4 y5 y6 y7 HA12 HB12 u1 q0 q1 q2 q3 q4 q5 q6 q7 w12;have HIM:=ak (HH.out.next HWB.out)
       have u1:wm.cell? ⟨g3,1,none⟩=some (.slice (some ad3) ins.length c1):=(blk_cell HIM.out.b3 1).trans rfl;have q3:=(HIN.out wm HIM.out.hd.below).c3;have h3:wm.cell? ⟨gh,3,none⟩=some (.slice Ao zs.length co):=(blk_cell HIM.out.hd.blk 3).trans rfl
       go_upto_region 18 with (first
        |(go_at_call 50;refine (marked_calls x.f3 A3 d3 _ (Kd.C_below HRN.out.r3 HIM.out.hd.below) HRN.out.l3 HFA.out).mono ?_;rintro e w8 ⟨v8,rfl,ho8,hb8⟩;obtain ⟨q8,hq8⟩:∃ q8,q8=x.f3++m82:=(⟨_,rfl⟩);rw [←hq8] at ho8;have HQ8:=ak hq8;have HQL:Aside0 (x.f3.length≤q8.length):=(⟨by rw [hq8];simp⟩);clear hq8;obtain ⟨A8,c8,rfl⟩:=Kd.R_slice ho8;have HO8:=ak ho8;have HD8:=ak (HIM.out.next hb8);have HM8:=ak ((hb8.block g10 (blk_lt HM.out)).trans HM.out);have HB8:=ak hb8;replace h3:=pw_cell_below hb8 h3;clear ho8 hb8 u1 q3)
        |((with_reducible refine gate_dst (N:=73) rfl ?_);at_builtin;refine Kd.R_append (Kd.slice 82 k82) (w0:=w0) w0.heap.size rfl (.tmp 70) (.tmp 72) 29 44 (.slice none 0 0) 24 rfl Try.underlying29 infoO rfl (by decide) (by omega) (.slice Ao zs.length co) zs q8 [.slice A8 q8.length c8] (fun _=>True) (fun k=>wm.heap.size≤k) rfl rfl ?aP ?aK ?aF HD8.out.hd.O HD8.out.hd.below HD8.out.hd.below.size HLE.out ?_;(case aP=>exact ⟨_,rfl,Kd.R_lower (Kd.R_reok rfl HO8.out (fun b hb=>Kd.R_base HO8.out b hb)) HIM.out.hd.below.size⟩);(case aK=>exact fun k hk=>⟨trivial,fun he=>by have:=Kd.R_lt HIM.out.hd.O k he.symm;omega⟩);(case aF=>exact fun _ _=>trivial);intro v9 w9 ho9 hb9 hg9 hat9;obtain ⟨A9,c9,hv9⟩:=Kd.R_slice ho9;rw [List.length_append,List.length_singleton] at hv9;subst hv9;have HD9:=ak (HD8.out.pushO ho9 hb9 hg9);have H34:=blk_grown HD8.out.hd.blk hg9 (Kd.R_ne HD8.out.hd.O HD8.out.hd.blk (by decide));have hm9:=blk_grown HM8.out hg9 (Kd.R_ne HD8.out.hd.O HM8.out (by decide));have HM9:=ak (blk_far hm9 (p:=⟨gh,3,none⟩) (blk_ne hm9 H34 (by decide)) (.slice A9 (zs.length+1) c9));have HO9:=ak (Kd.R_set (Kd.R_over HO8.out HD8.out.hd.O (by decide) hg9) H34 (by decide) 3 (.slice A9 (zs.length+1) c9));have t3:w9.cell? ⟨gh,3,none⟩=some (.slice Ao zs.length co):=(qk H34 3);have y3:=blk_frozen H34 3;clear ho9 hb9 hg9 hat9 h3 H34 hm9))
       clear t3 y3;generalize w9.setCell ⟨gh,3,none⟩ (.slice A9 (zs.length+1) c9)=w10 at HD9 HM9 HO9 ⊢;clear HIM HD8 HM8 HM w9;have u1:w10.cell? ⟨g3,1,none⟩=some (.slice (some ad3) ins.length c1):=(blk_cell HD9.out.b3 1).trans rfl;have q3:=(HIN.out w10 HD9.out.hd.below).c3;have t3:w10.cell? ⟨g10,3,none⟩=some (.slice A3 x.f3.length d3):=qj HM9 3;have y3:=ql HM9 3;have hcut:=cut_row 44 82 Try.underlying44 info82 A8 q8.length c8 x.f3.length HQL.out (Kd.R_reads' HO9.out).2.1
       have HQT:Aside0 (Kd.R k82 82 w10 wm.heap.size (fun _=>True) (.slice A8 x.f3.length c8) x.f3):=⟨by
        have h:=Kd.R_take (m:=x.f3.length) HO9.out HQL.out
        rwa [HQ8.out,List.take_left' rfl] at h⟩
       go_upto_region 19 with fail
       clear t3 y3 hcut u1 q3;have HG1:Aside0 (wr.heap.size≤g10):=HG10;have HD11:Aside0 (IS w0 w (w10.setCell ⟨g10,3,none⟩ (.slice A8 x.f3.length c8)) gh g3 g4 (.slice A9 (zs.length+1) c9) vS1 vN1 vI vB (zs++[q8]) ts nss1 iss bss lS1 lN1 lB #[.int .i64 pc,.slice (some ad3) ins.length c1,.slice A2 nx.length c2] (.slice Ay' yq.length cy') yq wr.heap.size (.slice Az ys.length cz) ys):=⟨HD9.out.far HM9.out (Nat.le_trans HH.out.kp.size HG1.out) HG1.out 3 _⟩
       have HM11:Aside0 ((w10.setCell ⟨g10,3,none⟩ (.slice A8 x.f3.length c8)).heap[g10]? =some (.cells (row47 x (.slice A8 x.f3.length c8) (.slice A7 x.f7.length d7)) 47 (0,0))):=⟨blk_put HM9.out 3 _ rfl⟩
       have HQ11:Aside0 (Kd.R k82 82 (w10.setCell ⟨g10,3,none⟩ (.slice A8 x.f3.length c8)) wm.heap.size (fun _=>True) (.slice A8 x.f3.length c8) x.f3):=⟨Kd.R_set HQT.out HM9.out (by decide) 3 _⟩
       generalize w10.setCell ⟨g10,3,none⟩ (.slice A8 x.f3.length c8)=w11 at HD11 HM11 HQ11 ⊢;clear HD9 HM9 HQT HO9 w10 HO8 HB8;have u1:w11.cell? ⟨g3,1,none⟩=some (.slice (some ad3) ins.length c1):=(blk_cell HD11.out.b3 1).trans rfl;have q7:=(HIN.out w11 HD11.out.hd.below).c7
       go_upto_region 20 with (first
        |(go_at_call 51;refine (hshapes_calls w0 _ gh _ _ _ _ _ _ _ _ _ _ _ _ _ _ HD11.out.hd ⟨HD11.out.limN,HD11.out.kp.size,Nat.le_trans HD11.out.lim HD11.out.kp.size⟩ x.f7 A7 d7 HRN.out.r7 HFX.out (by have:=HLE2.out;rw [List.length_append,List.length_singleton];omega) HLE3.out).mono ?_;rintro e w13 ⟨v7,vO2,vS2,rfl,hd13,ho13,hk13⟩;obtain ⟨B7,c7,rfl⟩:=Kd.R_slice ho13;have HD13:=ak (HD11.out.shapes hd13 hk13);have HM13:=ak (hk13.blk HM11.out (by decide));have HQ13:=ak (hk13.row HQ11.out (by decide));have HO13:=ak (Kd.R_lower ho13 (Nat.le_refl w11.heap.size));have HS13:=ak hk13.size;have t7:w13.cell? ⟨g10,7,none⟩=some (.slice A7 x.f7.length d7):=(qj HM13 7);have y7:=ql HM13 7;clear hd13 ho13 hk13 u1 q7))
       clear t7 y7;have HLW:Aside0 (wr.heap.size≤w11.heap.size):=⟨by have:=blk_lt HM11.out;have:=HG1.out;omega⟩
       have HD14:=ak (HD13.out.far HM13.out (Nat.le_trans HH.out.kp.size HG1.out) HG1.out 7 (.slice B7 x.f7.length c7));have HM14:Aside0 ((w13.setCell ⟨g10,7,none⟩ (.slice B7 x.f7.length c7)).heap[g10]? =some (.cells (row47 x (.slice A8 x.f3.length c8) (.slice B7 x.f7.length c7)) 47 (0,0))):=⟨blk_put HM13.out 7 _ rfl⟩
       have HQ14:Aside0 (Kd.R k82 82 (w13.setCell ⟨g10,7,none⟩ (.slice B7 x.f7.length c7)) wm.heap.size (fun _=>True) (.slice A8 x.f3.length c8) x.f3):=⟨Kd.R_set HQ13.out HM13.out (by decide) 7 _⟩
       have HO14:Aside0 (Kd.R k78 78 (w13.setCell ⟨g10,7,none⟩ (.slice B7 x.f7.length c7)) w11.heap.size (fun _=>True) (.slice B7 x.f7.length c7) x.f7):=⟨Kd.R_set HO13.out HM13.out (by decide) 7 _⟩
       generalize w13.setCell ⟨g10,7,none⟩ (.slice B7 x.f7.length c7)=w14 at HD14 HM14 HQ14 HO14 ⊢;clear HD13 HM13 HQ13 HO13 HS13 HD11 HM11 HQ11;have i0:w14.cell? ⟨g10,0,none⟩=some (.int .i64 x.f0):=qj HM14 0;have i1:w14.cell? ⟨g10,1,none⟩=some (.int .i64 x.f1):=qj HM14 1;have i2:w14.cell? ⟨g10,2,none⟩=some (.int .i64 x.f2):=qj HM14 2;have i3:w14.cell? ⟨g10,3,none⟩=some (.slice A8 x.f3.length c8):=qj HM14 3;have i4:w14.cell? ⟨g10,4,none⟩=some (.int .i64 x.f4):=qj HM14 4;have i5:w14.cell? ⟨g10,5,none⟩=some (.int .i64 x.f5):=qj HM14 5
       have i6:w14.cell? ⟨g10,6,none⟩=some (.int .i64 x.f6):=qj HM14 6;have i7:w14.cell? ⟨g10,7,none⟩=some (.slice B7 x.f7.length c7):=qj HM14 7
       go_wp2_with (first
        |((with_reducible refine gate_dst (N:=98) rfl ?_);at_builtin;refine Kd.R_append k47 (w0:=w14) w.heap.size rfl (.tmp 95) (.tmp 97) 41 47 (.agg #[(.int .i64 0),(.int .i64 0),(.int .i64 0),(.slice none 0 0),(.int .i64 0),(.int .i64 0),(.int .i64 0),(.slice none 0 0)]) 96 rfl Try.underlying41 info47 rfl (by decide) (by omega) (.slice Az ys.length cz) ys x [.int .i64 x.f0,.int .i64 x.f1,.int .i64 x.f2,.slice A8 x.f3.length c8,.int .i64 x.f4,.int .i64 x.f5,.int .i64 x.f6,.slice B7 x.f7.length c7] (fun _=>True) (fun k=>wr.heap.size≤k) rfl rfl ?aP ?aK ?aF (Kd.R_mono HD14.out.out (fun _ _=>trivial)) (Below.refl _ _) HD14.out.kp.size HLY.out ?_;(case aP=>exact k47_mkM _ _ _ x (Kd.R_lower (Kd.R_reok rfl HQ14.out (fun b hb=>Nat.le_trans HWB.out.size (Kd.R_base HQ14.out b hb))) (Nat.le_trans HH.out.kp.size HWB.out.size)) (Kd.R_lower (Kd.R_mono (Kd.R_bound HO14.out) (fun _ hk=>Nat.le_trans HLW.out hk.2.1)) (Nat.le_trans HH.out.kp.size HLW.out)));(case aK=>exact fun k hk=>⟨trivial,fun he=>by have:=HD14.out.out.1 k he.symm;omega⟩);(case aF=>exact fun _ _=>trivial);intro v15 w15 ho hb hg hat;have HP:=ak (HD14.out.pushOut ho hg);clear ho hb hg hat i0 i1 i2 i3 i4 i5 i6 i7))
       go_roundw
       case rel =>
        have h:=HP.out;rw [HQ8.out,←HZ1.out,←HZ2.out] at h;have e1:oss++osI (ins.take (i+1))=oss++osI ys++[x.f3++m82]++osOf x.f7:=by
         rw [HT.out,osI_snoc];simp only [List.append_assoc]
        have e2:sss++ssI (ins.take (i+1))=sss++ssI ys++[x.f7++m78]:=by
         rw [HT.out,ssI_snoc];simp only [List.append_assoc]
        rw [←e1,←e2,←HT.out] at h;exact ⟨i+1,_,_,_,by have:=HLT.out;omega,by go_num,⟨h⟩⟩
       case measure=>simp [intOf];omega
      ·obtain rfl:i=ins.length:=by omega
       rw [List.take_length] at HH ⊢;clear hlt hi hyl;generalize hz1:oss++osI ins=zs at HH;generalize hz2:sss++ssI ins=ts at HH;have HZ1:=ak hz1;have HZ2:=ak hz2;clear hz1 hz2
       go_wp2_with fail
       clear u1;have H0:Aside0 (IS w0 w wr gh g3 g4 (.slice Ao zs.length co) vS1 vN1 vI vB zs ts nss1 iss bss lS1 lN1 lB #[.int .i64 pc,.slice A1 ins.length c1,.slice A2 nx.length c2] (.slice Ay' yq.length cy') yq wr.heap.size (.slice Az ins.length cz) (ins++m47.take 0)):=⟨by rw [List.take_zero,List.append_nil];exact HH.out⟩
       clear HH
       go_loopw [8,12] (fun v8 v12 wi=>∃ (j:Nat),j≤16∧v12= .int .i64 j∧Aside0 (IS w0 w wi gh g3 g4 (.slice Ao zs.length co) vS1 vN1 vI vB zs ts nss1 iss bss lS1 lN1 lB #[.int .i64 pc,.slice A1 ins.length c1,.slice A2 nx.length c2] (.slice Ay' yq.length cy') yq wi.heap.size v8 (ins++m47.take j))) (fun _ v12 _=>16-(intOf v12).toNat)
       case atStart=>exact ⟨0,by omega,rfl,H0⟩
       case round =>
        clear H0;obtain ⟨j,hj,rfl,HH⟩:=hrel;have hml:m47.length=16:=rfl;have hyl:(ins++m47.take j).length=ins.length+j:=by rw [List.length_append,List.length_take];omega
        obtain ⟨Av,cv,hvy⟩:=Kd.R_slice HH.out.out;subst hvy
        by_cases hlt:j<16
        ·have HM:=ak (m47_take j hlt);have HLY:Aside0 (((ins++m47.take j).length+1)*96≤140737488355328):=⟨by have:=HFI.out.len;omega⟩
         generalize hz:ins++m47.take j=ys at HH HLY ⊢;have HY:=ak hz;have HJ:=ak hlt;have hj16:(j:Int)<16:=by omega
         clear hz hml hyl hlt hj
         go_wp2_with (first
          |((with_reducible refine gate_dst (N:=107) rfl ?_);at_builtin;refine Kd.R_append k47 (w0:=wr) w.heap.size rfl (.tmp 103) (.tmp 106) 41 47 (.agg #[(.int .i64 0),(.int .i64 0),(.int .i64 0),(.slice none 0 0),(.int .i64 0),(.int .i64 0),(.int .i64 0),(.slice none 0 0)]) 96 rfl Try.underlying41 info47 rfl (by decide) (by omega) (.slice Av ys.length cv) ys ⟨-7,0,0,[],0,(j:Int),0,[]⟩ [.int .i64 (-7),.int .i64 0,.int .i64 0,.slice none 0 0,.int .i64 0,.int .i64 j,.int .i64 0,.slice none 0 0] (fun _=>True) (fun _=>False) rfl rfl (k47_mkM _ _ _ (⟨-7,0,0,[],0,(j:Int),0,[]⟩:S47) (Kd.R_nil _ _ _ _ _) (Kd.R_nil _ _ _ _ _)) (fun _ hk=>hk.elim) (fun _ _=>trivial) (Kd.R_mono HH.out.out (fun _ _=>trivial)) (Below.refl _ _) HH.out.kp.size HLY.out ?_;intro v15 w15 ho hb hg hat;have HP:=ak (HH.out.pushOut ho hg);clear ho hb hg hat))
         go_roundw
         case rel=>exact ⟨j+1,by have:=HJ.out;omega,by go_num,⟨by rw [HM.out,←List.append_assoc,HY.out];exact HP.out⟩⟩
         case measure=>simp [intOf];omega
        ·obtain rfl:j=16:=by omega
         have hm:m47.take 16=m47:=rfl;rw [hm] at HH ⊢;obtain ⟨xq,hxq⟩:∃ xq,xq=ins++m47:=⟨_,rfl⟩
         rw [←hxq] at HH ⊢;have HXQ:=ak hxq;have HXL:Aside0 (ins.length≤xq.length):=⟨by rw [hxq];simp⟩
         obtain ⟨Ai,ci,hvi⟩:=Kd.R_slice HH.out.hd.I;subst hvi;have h6:wr.cell? ⟨gh,6,none⟩=some (.slice Ai iss.length ci):=(blk_cell HH.out.hd.blk 6).trans rfl;clear hxq hm hyl hml hlt hj
         go_upto_region 26 with (first
          |((with_reducible refine gate_dst (N:=115) rfl ?_);at_builtin;refine Kd.R_append (Kd.slice 47 k47) (w0:=w0) w0.heap.size rfl (.tmp 112) (.tmp 114) 32 41 (.slice none 0 0) 24 rfl Try.underlying32 infoIn rfl (by decide) (by omega) (.slice Ai iss.length ci) iss xq [.slice Av xq.length cv] (fun _=>True) (fun k=>w.heap.size≤k) rfl rfl ?aP ?aK ?aF (Kd.R_mono HH.out.hd.I (fun _ _=>trivial)) HH.out.hd.below HH.out.hd.below.size HLI.out ?_;(case aP=>exact ⟨_,rfl,Kd.R_lower (Kd.R_mono (Kd.R_bound HH.out.out) (fun _ hk=>hk.2.1)) HW0.out⟩);(case aK=>exact fun k hk=>⟨trivial,fun he=>by have:=HH.out.hd.I.1 k he.symm;omega⟩);(case aF=>exact fun _ _=>trivial);intro v9 w9 ho9 hb9 hg9 hat9;obtain ⟨A9,c9,hv9⟩:=Kd.R_slice ho9;rw [List.length_append,List.length_singleton] at hv9;subst hv9;have HD9:=ak (HH.out.hd.pushI ho9 hb9 hg9);have H34:=blk_grown HH.out.hd.blk hg9 (Kd.R_ne HH.out.hd.I HH.out.hd.blk (by decide));have HKP:Aside0 (Kp [34,44,45,25,41] w (w9.setCell ⟨gh,6,none⟩ (.slice A9 (iss.length+1) c9))):=(⟨(HH.out.kp.trans (Kp.of_grown hg9 fun k hk=>(by obtain ⟨cs,hc⟩:=Kd.R_typed HH.out.hd.I k hk;exact ⟨cs,41,hc,by decide⟩))).set H34 (by decide) 6 _⟩);have HO9:=ak (Kd.R_set (Kd.R_over HH.out.out HH.out.hd.I (by decide) hg9) H34 (by decide) 6 (.slice A9 (iss.length+1) c9));have HNX:=ak (Kd.R_set (Kd.R_over HH.out.nxt HH.out.hd.I (by decide) hg9) H34 (by decide) 6 (.slice A9 (iss.length+1) c9));have hb3:=blk_grown HH.out.b3 hg9 (Kd.R_ne HH.out.hd.I HH.out.b3 (by decide));have hb4:=blk_grown HH.out.b4 hg9 (Kd.R_ne HH.out.hd.I HH.out.b4 (by decide));have HB3:=ak (blk_far hb3 (p:=⟨gh,6,none⟩) (blk_ne hb3 H34 (by decide)) (.slice A9 (iss.length+1) c9));have HB4:=ak (blk_far hb4 (p:=⟨gh,6,none⟩) (blk_ne hb4 H34 (by decide)) (.slice A9 (iss.length+1) c9));have HSZ:Aside0 (wr.heap.size≤(w9.setCell ⟨gh,6,none⟩ (.slice A9 (iss.length+1) c9)).heap.size∧w9.heap.size≤(w9.setCell ⟨gh,6,none⟩ (.slice A9 (iss.length+1) c9)).heap.size):=(⟨by have:=hg9.size;simp at this ⊢; omega⟩);have t3:w9.cell? ⟨gh,6,none⟩=some (.slice Ai iss.length ci):=(qk H34 6);have y3:=blk_frozen H34 6;clear ho9 hb9 hg9 hat9 h6 H34 hb3 hb4))
         clear t3 y3;generalize w9.setCell ⟨gh,6,none⟩ (.slice A9 (iss.length+1) c9)=w10 at HD9 HKP HO9 HNX HB3 HB4 HSZ ⊢;have b0:w10.cell? ⟨g3,0,none⟩=some (.int .i64 pc):=qj HB3 0;have b1:w10.cell? ⟨g3,1,none⟩=some (.slice A1 ins.length c1):=qj HB3 1;have b2:w10.cell? ⟨g3,2,none⟩=some (.slice A2 nx.length c2):=qj HB3 2;have hcut1:=cut_row 41 47 Try.underlying41 info47 Av xq.length cv ins.length HXL.out (Kd.R_reads' HO9.out).2.1;have hcut2:=cut_row 25 3 Try.underlying25 infoI Ay' yq.length cy' nx.length HYL.out (Kd.R_reads' HNX.out).2.1
         go_still_tail 13,(by kernel_rfl)
         change wpList _ _ _ _ _ w10.drew
         have HB4d:Aside0 (w10.drew.heap[g4]? =some (.cells #[.int .i64 0,.slice none 0 0,.slice none 0 0] 43 (0,0))):=⟨HB4.out⟩
         have HDd:=ak (HD9.out.next (below_drew1 (Below.refl _ w10)));have HKd:=ak (HKP.out.trans (Kp.of_below _ (below_drew1 (Below.refl _ w10))));have HOd:=ak (Kd.R_drew HO9.out);have HNd:=ak (Kd.R_drew HNX.out);clear b0 b1 b2 hcut1 hcut2 HB4 HD9 HKP HO9 HNX HB3 HSZ;generalize w10.drew=w16 at *;have z0:w16.cell? ⟨g4,0,none⟩=some (.int .i64 0):=qj HB4d 0;have z1:w16.cell? ⟨g4,1,none⟩=some (.slice none 0 0):=qj HB4d 1;have z2:w16.cell? ⟨g4,2,none⟩=some (.slice none 0 0):=qj HB4d 2;have y0:=ql HB4d 0;have y1:=ql HB4d 1;have y2:=ql HB4d 2
         go_wp2_with fail
         refine bodyPost_ret (results_cell_row rfl _ _ g4 43 #[.int .i64 pc,.slice Av ins.length cv,.slice Ay' nx.length cy'] (0,0) _ rfl (blk_put (blk_put (blk_put HB4d.out 0 _ rfl) 1 _ rfl) 2 _ rfl) Try.underlying43 rfl (by kernel_rfl)) rfl ?_;have g40:w0.heap.size≤g4:=Nat.le_trans HW0.out HG4.out;have g4l:lB≤g4:=Nat.le_trans HLM.out HG4.out;refine ⟨_,_,.slice Ao zs.length co,vS1,vN1,.slice A9 (iss.length+1) c9,rfl,?_,?_,?_,((HKd.out.far_set HG4.out 0 _).far_set HG4.out 1 _).far_set HG4.out 2 _⟩
         ·rw [HZ1.out,HZ2.out,←HYQ.out,HNS.out,←HXQ.out];exact HD.most (HD.far43 (HD.far43 (HD.far43 HDd.out HB4d.out g40 g4l 0 _) (blk_set HB4d.out 0 _) g40 g4l 1 _) (blk_set (blk_set HB4d.out 0 _) 1 _) g40 g4l 2 _)
         ·have h:=Kd.R_take (m:=ins.length) HOd.out HXL.out;rw [HXQ.out,List.take_left' rfl] at h;exact Kd.R_mono (row_set3 h HB4d.out (by decide) _ _ _) (fun _ _=>trivial)
         ·have h:=Kd.R_take (m:=nx.length) HNd.out HYL.out;rw [HYQ.out,List.take_left' rfl] at h;exact row_set3 h HB4d.out (by decide) _ _ _
end Go.Proofs.Ytklknkfoafdgpaa.LiveHandB
