import Derived.Test.YtklknkfoafdgpaaLiveHandP
namespace Go.Proofs.Ytklknkfoafdgpaa.LiveHandS
set_option maxHeartbeats 8000000
set_option maxRecDepth 100000
open RowKit YtklknkfoafdgpaaW.PrintWords YtklknkfoafdgpaaW.PrintLast YtklknkfoafdgpaaW.PrintMore
open PLiveKnown LiveT LiveB LiveInv LiveSet LiveAhead LiveEnd LiveSettled LiveCopied LiveAft LiveRunP LiveSame LiveFit LiveEvt LiveRefP LiveHandP
set_option linter.unusedVariables false
set_option linter.unusedSimpArgs false
structure FitS (l:List S78):Prop where
 len:(l.length+16)*40≤140737488355328
 each:∀ k,k<l.length→((rd_T78 l k).f2.length+16)*16≤140737488355328
def osOf (l:List S78):List (List S82):=l.map fun s=>s.f2++m82
theorem osOf_take (l:List S78) (i:Nat) (hi:i<l.length):osOf (l.take (i+1))=osOf (l.take i)++[(rd_T78 l i).f2++m82]:=by
 rw [rd78 l i hi,List.take_add_one,List.getElem?_eq_getElem hi];simp only [osOf,List.map_append];rfl
theorem take_78 (l:List S78) (i:Nat) (hi:i<l.length):l.take (i+1)=l.take i++[rd_T78 l i]:=by
 rw [rd78 l i hi,List.take_add_one,List.getElem?_eq_getElem hi];rfl
theorem m78_take (j:Nat) (hj:j<16):m78.take (j+1)=m78.take j++[⟨-7,(j:Int),[]⟩]:=by
 rw [List.take_add_one]
 congr 1
 simp [m78,hj]
structure HS (w0 wE W:World) (gh:Nat) (vO vS vN vI vB:Value) (oss:List (List S82)) (sss:List (List S78)) (nss:List (List Int)) (iss:List (List S47)) (bss:List S43) (lN lI lB:Nat) (lo:Nat) (v:Value) (ys:List S78):Prop where
 hd:HD w0 W gh vO vS vN vI vB oss sss nss iss bss wE.heap.size lN lI lB
 out:Kd.R k78 78 W wE.heap.size (fun k=>k<lo) v ys
 kp:Kp [34,44,45] wE W
 lim:lN≤wE.heap.size∧lI≤wE.heap.size∧lB≤wE.heap.size
section
variable {w0 wE W W1:World} {gh:Nat} {vO vS vN vI vB v:Value} {oss:List (List S82)} {sss:List (List S78)} {nss:List (List Int)} {iss:List (List S47)} {bss:List S43} {lN lI lB lo:Nat} {ys:List S78}
theorem HS.next (h:HS w0 wE W gh vO vS vN vI vB oss sss nss iss bss lN lI lB lo v ys) (hb:Below W.heap.size W W1):HS w0 wE W1 gh vO vS vN vI vB oss sss nss iss bss lN lI lB lo v ys:=
 ⟨h.hd.next hb,Kd.R_below h.out hb,h.kp.trans (Kp.of_below _ hb),h.lim⟩
theorem HS.bound (h:HS w0 wE W gh vO vS vN vI vB oss sss nss iss bss lN lI lB lo v ys):HS w0 wE W gh vO vS vN vI vB oss sss nss iss bss lN lI lB W.heap.size v ys:=
 ⟨h.hd,Kd.R_mono (Kd.R_bound h.out) (fun _ hk=>hk.2.2.1),h.kp,h.lim⟩
theorem HS.pushO {v1:Value} {oss1:List (List S82)} (h:HS w0 wE W gh vO vS vN vI vB oss sss nss iss bss lN lI lB lo v ys) (hO:Kd.R (Kd.slice 82 k82) 44 W1 w0.heap.size (fun _=>True) v1 oss1) (hb:Below w0.heap.size w0 W1) (hg:W.grownBy W1 vO.ownBlock) :
  HS w0 wE (W1.setCell ⟨gh,3,none⟩ v1) gh v1 vS vN vI vB oss1 sss nss iss bss lN lI lB lo v ys:=by
 have h34:=blk_grown h.hd.blk hg (Kd.R_ne h.hd.O h.hd.blk (by decide));refine ⟨h.hd.pushO hO hb hg,Kd.R_set (Kd.R_over h.out h.hd.O (by decide) hg) h34 (by decide) 3 v1,(h.kp.trans (Kp.of_grown hg fun k hk=>?_)).set h34 (by decide) 3 v1,h.lim⟩;obtain ⟨cs,hc⟩:=Kd.R_typed h.hd.O k hk;exact ⟨cs,44,hc,by decide⟩
theorem HS.far {g:Nat} {cs:Array Value} (h:HS w0 wE W gh vO vS vN vI vB oss sss nss iss bss lN lI lB lo v ys) (hg:W.heap[g]? =some (.cells cs 78 (0,0))) (h0:wE.heap.size≤g) (hb:w0.heap.size≤wE.heap.size) (hl:lo≤g) (j:Nat) (u:Value):HS w0 wE (W.setCell ⟨g,j,none⟩ u) gh vO vS vN vI vB oss sss nss iss bss lN lI lB lo v ys:=
 ⟨h.hd.far hg (Nat.le_trans hb h0) (by decide) (by decide) ⟨Nat.le_trans h.lim.1 h0,Nat.le_trans h.lim.2.1 h0,Nat.le_trans h.lim.2.2 h0⟩ (.inr h0) j u,Kd.R_far h.out (fun k hk=>by show k≠g;omega) u,h.kp.far_set h0 j u,h.lim⟩
theorem HS.pushOut {v1:Value} {ys1:List S78} (h:HS w0 wE W gh vO vS vN vI vB oss sss nss iss bss lN lI lB lo v ys) (hO:Kd.R k78 78 W1 wE.heap.size (fun _=>True) v1 ys1) (hb:Below w0.heap.size w0 W1) (hg:W.grownBy W1 v.ownBlock) :
  HS w0 wE W1 gh vO vS vN vI vB oss sss nss iss bss lN lI lB W1.heap.size v1 ys1:=
 ⟨h.hd.over h.out hg hb (by decide) (by decide) (fun k hk=>by have:=Kd.R_base h.out k hk;have:=h.lim;exact ⟨by omega,by omega,by omega⟩) (.inr fun k hk=>Kd.R_base h.out k hk),Kd.R_mono (Kd.R_bound hO) (fun _ hk=>hk.2.2.1),h.kp.far_row hg (Kd.R_base h.out),h.lim⟩
end
theorem rd_shape' {A:Option Addr} {w W:World} {n:Nat} {l:List S78} (hr:Kd.C k78 w A n l) (hb:Below w.heap.size w W) (k:Nat) (hk:k<n):∃ ad A2 c2,A=some ad∧W.cell? (ad.add (k*3))=some (.int .i64 (rd_T78 l k).f0)∧W.cell? ⟨(ad.add (k*3)).block,(ad.add (k*3)).off+1,none⟩=some (.int .i64 (rd_T78 l k).f1)∧W.cell? ⟨(ad.add (k*3)).block,(ad.add (k*3)).off+2,none⟩=some (.slice A2 (rd_T78 l k).f2.length c2)∧(rd_T78 l k).f2.length≤c2∧Kd.C k82 w A2 (rd_T78 l k).f2.length (rd_T78 l k).f2:=by
 obtain ⟨ad,A2,c2,e,h0,h1,h2,h2',h3⟩:=at_T78 hr (k:Int) (by omega) (by omega);simp only [Int.toNat_natCast] at h0 h1 h2;exact ⟨ad,A2,c2,e,pw_cell_below hb h0,pw_cell_below hb h1,pw_cell_below hb h2,h2',h3⟩
theorem cut_row (t e:TypeId) {z:Value} {s b:Nat} (ht:Try.prog.underlying t=some (.slice e)) (hi:(Try.prog.info? e).map (fun i=>(i.zero,i.size,i.bytes))=some (some z,s,b)) (A:Option Addr) (n c m:Nat) (hm:m≤n) (hc:n≤c) :
  ∀ W:World,(Instr.slice t (.slice A n c) none (some (.int .i64 (m:Int))) none).run Try.prog W= .ok (.slice A m c) W:=by
 obtain ⟨i,hi',_⟩:=Option.map_eq_some_iff.1 hi;intro W;have h:=cut_to (P:=Try.prog) t e .i64 ht hi' A n c (m:Int) (by omega) (by omega) hc W;rw [Int.toNat_natCast] at h;exact h
theorem hshapes_calls (w0 w:World) (gh:Nat) (vO vS vN vI vB:Value) (oss:List (List S82)) (sss:List (List S78)) (nss:List (List Int)) (iss:List (List S47)) (bss:List S43) (lS lN lI lB:Nat) (h:HD w0 w gh vO vS vN vI vB oss sss nss iss bss lS lN lI lB)
  (hlim:lN≤w.heap.size∧lI≤w.heap.size∧lB≤w.heap.size) (l:List S78) (A:Option Addr) (c:Nat) (hC:Kd.C k78 w0 A l.length l) (hf:FitS l) (hO:(oss.length+l.length)*24≤140737488355328) (hS:(sss.length+1)*24≤140737488355328) :
  Calls Try.prog 51 #[.pointer (some ⟨gh,0,none⟩),.slice A l.length c] w fun e w'=>∃ v vO1 vS1,e= .returned v∧HD w0 w' gh vO1 vS1 vN vI vB (oss++osOf l) (sss++[l++m78]) nss iss bss w'.heap.size lN lI lB∧Kd.R k78 78 w' w.heap.size (fun _=>True) v l∧Kp [34,44,45] w w':=by
 have HC:=ak hC;have HFS:=ak hf;have HLO:=ak hO;have HLS:=ak hS;have hlm:l.length≤9223372036854775807:=by have:=hf.len;omega
 have HW0:=ak h.below.size;have H0:Aside0 (HS w0 w w gh vO vS vN vI vB (oss++osOf (l.take 0)) sss nss iss bss lN lI lB w.heap.size (.slice none 0 0) (l.take 0)):=⟨⟨⟨h.below,h.blk,by rw [List.take_zero];show Kd.R _ _ _ _ _ _ (oss++[]);rw [List.append_nil];exact h.O,h.bound.S,h.N,h.I,h.B,h.low⟩,Kd.R_nil _ _ _ _ _,Kp.refl _ _,hlim⟩⟩
 clear hC hf hO hS h hlim
 go_enter Try.func51,Try.ntmps51
 go_wp2_with fail
 go_loopw [5,6] (fun v5 v6 wi=>∃ (i:Nat) (vO1:Value),i≤l.length∧v6= .int .i64 i∧Aside0 (HS w0 w wi gh vO1 vS vN vI vB (oss++osOf (l.take i)) sss nss iss bss lN lI lB wi.heap.size v5 (l.take i))) (fun _ v6 _=>l.length-(intOf v6).toNat)
 case atStart=>exact ⟨0,vO,by omega,rfl,H0⟩
 case round =>
  clear H0;obtain ⟨i,vO1,hi,rfl,HH⟩:=hrel;obtain ⟨Ay,cy,hvy⟩:=Kd.R_slice HH.out.out;obtain ⟨Ao,co,hvo⟩:=Kd.R_slice HH.out.hd.O;subst hvy hvo;have hyl:(l.take i).length=i:=by rw [List.length_take];omega
  by_cases hlt:i<l.length
  ·have HT:=ak (take_78 l i hlt);have HTO:=ak (osOf_take l i hlt);have hsl:=HFS.out.each i hlt;have HSL:=ak hsl;obtain ⟨ad,A2,c2,e1,hx0,hx1,hx2,hc2,hC2⟩:=rd_shape' HC.out (Below.refl _ w0) i hlt;subst e1;have HC2:=ak hC2;have HCC:=ak hc2;have HX2:=ak hx2;replace hx0:=pw_cell_below HH.out.hd.below hx0;replace hx1:=pw_cell_below HH.out.hd.below hx1;replace hx2:=pw_cell_below HH.out.hd.below hx2;have hol:(oss++osOf (l.take i)).length=oss.length+i:=by simp only [List.length_append,osOf,List.length_map,hyl]
   have HLE:Aside0 (((oss++osOf (l.take i)).length+1)*24≤140737488355328):=⟨by have:=HLO.out;omega⟩
   have HLY:Aside0 (((l.take i).length+1)*40≤140737488355328):=⟨by have:=HFS.out.len;omega⟩
   have HLT:=ak hlt;generalize rd_T78 l i=p at *;generalize l.take i=ys at *;generalize hz:oss++osOf ys=zs at HH HLE;have HZ:=ak hz;clear hz;clear hsl hC2 hc2 hyl hol;have hlti:(i:Int)<l.length:=by omega
   have h3:wr.cell? ⟨gh,3,none⟩=some (.slice Ao zs.length co):=(blk_cell HH.out.hd.blk 3).trans rfl
   go_upto_region 8 with (first
    |((with_reducible refine gate_dst (N:=7) rfl ?_);refine alloc78_event rfl rfl rfl ?_;intro g7 w7 hg7 hA7 hb7;have HG7:=ak hg7;have HB7:=ak (below_set (v:= .slice A2 p.f2.length c2) (j:=2) (below_set (v:= .int .i64 p.f1) (j:=1) (below_set (v:= .int .i64 p.f0) (j:=0) hb7 hg7) hg7) hg7);have HA7:=ak (blk_put (blk_put (blk_put hA7 0 (.int .i64 p.f0) rfl) 1 (.int .i64 p.f1) rfl) 2 (.slice A2 p.f2.length c2) rfl);have i0:=(blk_cell hA7 0).trans (rfl: #[Value.int .i64 0,.int .i64 0,.slice none 0 0][0]? =some (.int .i64 0));have i1:=(blk_cell hA7 1).trans (rfl: #[Value.int .i64 0,.int .i64 0,.slice none 0 0][1]? =some (.int .i64 0));have i2:=(blk_cell hA7 2).trans (rfl: #[Value.int .i64 0,.int .i64 0,.slice none 0 0][2]? =some (.slice none 0 0));have j0:=blk_frozen hA7 0;have j1:=blk_frozen hA7 1;have j2:=blk_frozen hA7 2;have hlt7:=World.block_lt_of_cell? _ _ hx2;have hne7:¬ (ad.add (i*3)).block=g7:=(by have:(ad.add (i*3)).block<wr.heap.size:=hlt7;omega);have hne7':¬ ad.block=g7:=(by rw [add_block] at hne7;exact hne7);replace hx0:=pw_cell_below hb7 hx0;replace hx1:=pw_cell_below hb7 hx1;replace hx2:=pw_cell_below hb7 hx2;clear hlt7 hg7 hA7 hb7)
    |(go_at_call 50;have HD7:=ak (HH.out.next HB7.out);refine (marked_calls p.f2 A2 c2 _ (Kd.C_below HC2.out HD7.out.hd.below) HCC.out HSL.out).mono ?_;rintro e w8 ⟨v8,rfl,ho8,hb8⟩;obtain ⟨q8,hq8⟩:∃ q8,q8=p.f2++m82:=(⟨_,rfl⟩);rw [←hq8] at ho8;have HQ8:=ak hq8;have HQL:Aside0 (p.f2.length≤q8.length):=(⟨by rw [hq8];simp⟩);clear hq8;obtain ⟨A8,c8,rfl⟩:=Kd.R_slice ho8;have HO8:=ak ho8;have HD8:=ak (HD7.out.next hb8);have HB8:=ak (below_step HB7.out hb8);have HA8:=ak ((hb8.block g7 (blk_lt HA7.out)).trans HA7.out);have h3:w8.cell? ⟨gh,3,none⟩=some (.slice Ao zs.length co):=((blk_cell HD8.out.hd.blk 3).trans rfl);clear ho8 hb8 i0 i1 i2 j0 j1 j2 hx0 hx1 hx2)
    |((with_reducible refine gate_dst (N:=33) rfl ?_);at_builtin;refine Kd.R_append (Kd.slice 82 k82) (w0:=w0) w0.heap.size rfl (.tmp 30) (.tmp 32) 29 44 (.slice none 0 0) 24 rfl Try.underlying29 infoO rfl (by decide) (by omega) (.slice Ao zs.length co) zs q8 [.slice A8 q8.length c8] (fun _=>True) (fun k=>wr.heap.size≤k) rfl rfl ?aP ?aK ?aF HD8.out.hd.O HD8.out.hd.below HD8.out.hd.below.size HLE.out ?_;(case aP=>exact ⟨_,rfl,Kd.R_lower (Kd.R_reok rfl HO8.out (fun b hb=>Nat.le_trans HB7.out.size (Kd.R_base HO8.out b hb))) (Nat.le_trans HH.out.hd.below.size HB7.out.size)⟩);(case aK=>exact fun k hk=>⟨trivial,fun he=>by have:=Kd.R_lt HH.out.hd.O k he.symm;omega⟩);(case aF=>exact fun _ _=>trivial);intro v9 w9 ho9 hb9 hg9 hat9;obtain ⟨A9,c9,hv9⟩:=Kd.R_slice ho9;rw [List.length_append,List.length_singleton] at hv9;subst hv9;have HD9:=ak (HD8.out.pushO ho9 hb9 hg9);have HA9:=ak (blk_grown HA8.out hg9 (Kd.R_ne HD8.out.hd.O HA8.out (by decide)));have H34:=blk_grown HD8.out.hd.blk hg9 (Kd.R_ne HD8.out.hd.O HD8.out.hd.blk (by decide));have hne:gh≠g7:=blk_ne HD8.out.hd.blk HA8.out (by decide);have HA9b:=ak (blk_far HA9.out (p:=⟨gh,3,none⟩) (Ne.symm hne) (.slice A9 (zs.length+1) c9));have HO9:=ak (Kd.R_set (Kd.R_over HO8.out HD8.out.hd.O (by decide) hg9) H34 (by decide) 3 (.slice A9 (zs.length+1) c9));have t3:w9.cell? ⟨gh,3,none⟩=some (.slice Ao zs.length co):=(qk H34 3);have y3:=blk_frozen H34 3;clear hne ho9 hb9 hg9 hat9 h3 H34))
   clear t3 y3 hne7 hne7';generalize w9.setCell ⟨gh,3,none⟩ (.slice A9 (zs.length+1) c9)=w10 at HD9 HA9b HO9 ⊢;have hx2:=pw_cell_below HD9.out.hd.below HX2.out;have i0:=(blk_cell HA9b.out 0).trans (rfl: #[Value.int .i64 p.f0,.int .i64 p.f1,.slice A2 p.f2.length c2][0]? =some (.int .i64 p.f0));have i1:=(blk_cell HA9b.out 1).trans (rfl: #[Value.int .i64 p.f0,.int .i64 p.f1,.slice A2 p.f2.length c2][1]? =some (.int .i64 p.f1));have i2:=(blk_cell HA9b.out 2).trans (rfl: #[Value.int .i64 p.f0,.int .i64 p.f1,.slice A2 p.f2.length c2][2]? =some (.slice A2 p.f2.length c2))
   have j2:=ql HA9b 2;have hcut:=cut_row 44 82 Try.underlying44 info82 A8 q8.length c8 p.f2.length HQL.out (Kd.R_reads' HO9.out).2.1;have hqt:Kd.R k82 82 w10 wr.heap.size (fun _=>True) (.slice A8 p.f2.length c8) p.f2:=by
    have h:=Kd.R_take (m:=p.f2.length) (Kd.R_lower HO9.out HB7.out.size) HQL.out
    rwa [HQ8.out,List.take_left' rfl] at h
   have HQT:=ak hqt;clear hqt
   go_wp2_with (first
    |((with_reducible refine gate_dst (N:=48) rfl ?_);at_builtin;have H7g:wr.heap.size≤g7:=HG7.out;have HWE:=HH.out.kp.size;have HD11:=ak (HD9.out.far HA9b.out (Nat.le_trans HWE H7g) HW0.out H7g 2 (.slice A8 p.f2.length c8));refine Kd.R_append k78 (w0:=(w10.setCell ⟨g7,2,none⟩ (.slice A8 p.f2.length c8))) w.heap.size rfl (.tmp 45) (.tmp 47) 45 78 (.agg #[(.int .i64 0),(.int .i64 0),(.slice none 0 0)]) 40 rfl Try.underlying45 info78 rfl (by decide) (by omega) (.slice Ay ys.length cy) ys p [.int .i64 p.f0,.int .i64 p.f1,.slice A8 p.f2.length c8] (fun _=>True) (fun k=>wr.heap.size≤k) rfl (show _=Value.slice (some ⟨(w10.setCell ⟨g7,2,none⟩ (.slice A8 p.f2.length c8)).heap.size,0,none⟩) 1 1 by rw [show (w10.setCell ⟨g7,2,none⟩ (.slice A8 p.f2.length c8)).heap.size=w10.heap.size by simp];rfl) ?aP ?aK ?aF (Kd.R_mono HD11.out.out (fun _ _=>trivial)) (Below.refl _ _) HD11.out.kp.size HLY.out ?_;(case aP=>exact k78_mkM _ _ _ p (Kd.R_lower (Kd.R_set (Kd.R_reok rfl HQT.out (fun b hb=>Kd.R_base HQT.out b hb)) HA9b.out (by decide) 2 _) HWE));(case aK=>exact fun k hk=>⟨trivial,fun he=>by have:=HD11.out.out.1 k he.symm;omega⟩);(case aF=>exact fun _ _=>trivial);intro v12 w12 ho hb hg hat;have HD12:=ak (HD11.out.pushOut ho (HD11.out.hd.below.grown hg HD11.out.hd.below.size (fun k hk=>Nat.le_trans HW0.out (Kd.R_base HD11.out.out k hk))) hg);clear ho hb hg hat i0 i1 i2 j2 hx2 hcut))
   go_roundw
   case rel=>exact ⟨i+1,_,by have:=HLT.out;omega,by go_num,⟨by rw [HTO.out,HT.out,←List.append_assoc,HZ.out,←HQ8.out];exact HD12.out⟩⟩
   case measure=>simp [intOf];omega
  ·obtain rfl:i=l.length:=by omega
   rw [List.take_length] at HH ⊢;clear hlt hi hyl;generalize hz:oss++osOf l=zs at HH;have HZ:=ak hz;clear hz
   go_wp2_with fail
   have H0:Aside0 (HS w0 w wr gh (.slice Ao zs.length co) vS vN vI vB zs sss nss iss bss lN lI lB wr.heap.size (.slice Ay l.length cy) (l++m78.take 0)):=⟨by rw [List.take_zero,List.append_nil];exact HH.out⟩
   clear HH
   go_loopw [5,9] (fun v5 v9 wi=>∃ (j:Nat),j≤16∧v9= .int .i64 j∧Aside0 (HS w0 w wi gh (.slice Ao zs.length co) vS vN vI vB zs sss nss iss bss lN lI lB wi.heap.size v5 (l++m78.take j))) (fun _ v9 _=>16-(intOf v9).toNat)
   case atStart=>exact ⟨0,by omega,rfl,H0⟩
   case round =>
    clear H0;obtain ⟨j,hj,rfl,HH⟩:=hrel;have hml:m78.length=16:=rfl;have hyl:(l++m78.take j).length=l.length+j:=by rw [List.length_append,List.length_take];omega
    by_cases hlt:j<16
    ·have HM:=ak (m78_take j hlt);have HLY:Aside0 (((l++m78.take j).length+1)*40≤140737488355328):=⟨by have:=HFS.out.len;omega⟩
     obtain ⟨Ay',cy',hvy⟩:=Kd.R_slice HH.out.out;subst hvy;generalize hz:l++m78.take j=ys at HH HLY ⊢;have HY:=ak hz;have HJ:=ak hlt;have hj16:(j:Int)<16:=by omega
     clear hz hml hyl hlt hj
     go_wp2_with (first
      |((with_reducible refine gate_dst (N:=57) rfl ?_);at_builtin;refine Kd.R_append k78 (w0:=wr) w.heap.size rfl (.tmp 53) (.tmp 56) 45 78 (.agg #[(.int .i64 0),(.int .i64 0),(.slice none 0 0)]) 40 rfl Try.underlying45 info78 rfl (by decide) (by omega) (.slice Ay' ys.length cy') ys ⟨-7,(j:Int),[]⟩ [.int .i64 (-7),.int .i64 j,.slice none 0 0] (fun _=>True) (fun _=>False) rfl rfl (k78_mkM _ _ _ (⟨-7,(j:Int),[]⟩:S78) (Kd.R_nil _ _ _ _ _)) (fun _ hk=>hk.elim) (fun _ _=>trivial) (Kd.R_mono HH.out.out (fun _ _=>trivial)) (Below.refl _ _) HH.out.kp.size HLY.out ?_;intro v12 w12 ho hb hg hat;have HD12:=ak (HH.out.pushOut ho (HH.out.hd.below.grown hg HH.out.hd.below.size (fun k hk=>Nat.le_trans HW0.out (Kd.R_base HH.out.out k hk))) hg);clear ho hb hg hat))
     go_roundw
     case rel=>exact ⟨j+1,by have:=HJ.out;omega,by go_num,⟨by rw [HM.out,←List.append_assoc,HY.out];exact HD12.out⟩⟩
     case measure=>simp [intOf];omega
    ·obtain rfl:j=16:=by omega
     have hm:m78.take 16=m78:=rfl;rw [hm] at HH;obtain ⟨yq,hyq⟩:∃ yq,yq=l++m78:=⟨_,rfl⟩
     rw [←hyq] at HH;have HYQ:=ak hyq;have HYL:Aside0 (l.length≤yq.length):=⟨by rw [hyq];simp⟩
     obtain ⟨Ay',cy',hvy⟩:=Kd.R_slice HH.out.out;obtain ⟨Aq,cq,hvq⟩:=Kd.R_slice HH.out.hd.S;subst hvy hvq;have hcut:=cut_row 45 78 Try.underlying45 info78 Ay' yq.length cy' l.length HYL.out (Kd.R_reads' HH.out.out).2.1;have h4:wr.cell? ⟨gh,4,none⟩=some (.slice Aq sss.length cq):=(blk_cell HH.out.hd.blk 4).trans rfl;clear hyq hm hyl hml hlt hj
     go_wp2_with (first
      |((with_reducible refine gate_dst (N:=65) rfl ?_);at_builtin;refine Kd.R_append (Kd.slice 78 k78) (w0:=w0) w0.heap.size rfl (.tmp 62) (.tmp 64) 30 45 (.slice none 0 0) 24 rfl Try.underlying30 infoS rfl (by decide) (by omega) (.slice Aq sss.length cq) sss yq [.slice Ay' yq.length cy'] (fun _=>True) (fun k=>w.heap.size≤k) rfl rfl ?aP ?aK ?aF (Kd.R_mono HH.out.hd.S (fun _ _=>trivial)) HH.out.hd.below HH.out.hd.below.size HLS.out ?_;(case aP=>exact ⟨_,rfl,Kd.R_lower (Kd.R_mono (Kd.R_bound HH.out.out) (fun _ hk=>hk.2.1)) HW0.out⟩);(case aK=>exact fun k hk=>⟨trivial,fun he=>by have:=HH.out.hd.S.1 k he.symm;omega⟩);(case aF=>exact fun _ _=>trivial);intro v9 w9 ho9 hb9 hg9 hat9;obtain ⟨A9,c9,hv9⟩:=Kd.R_slice ho9;rw [List.length_append,List.length_singleton] at hv9;subst hv9;have HD9:=ak (HH.out.hd.pushS ho9 hb9 hg9);have H34:=blk_grown HH.out.hd.blk hg9 (Kd.R_ne HH.out.hd.S HH.out.hd.blk (by decide));have HKP:Aside0 (Kp [34,44,45] w (w9.setCell ⟨gh,4,none⟩ (.slice A9 (sss.length+1) c9))):=(⟨(HH.out.kp.trans (Kp.of_grown hg9 fun k hk=>(by obtain ⟨cs,hc⟩:=Kd.R_typed HH.out.hd.S k hk;exact ⟨cs,45,hc,by decide⟩))).set H34 (by decide) 4 _⟩);have HO9:=ak (Kd.R_set (Kd.R_over HH.out.out HH.out.hd.S (by decide) hg9) H34 (by decide) 4 (.slice A9 (sss.length+1) c9));have t3:w9.cell? ⟨gh,4,none⟩=some (.slice Aq sss.length cq):=(qk H34 4);have y3:=blk_frozen H34 4;clear ho9 hb9 hg9 hat9 h4 H34))
     go_ret
     refine ⟨_,.slice Ao zs.length co,.slice A9 (sss.length+1) c9,rfl,?_,?_,HKP.out⟩
     ·rw [show (w9.setCell ⟨gh,4,none⟩ (.slice A9 (sss.length+1) c9)).heap.size=w9.heap.size by simp,HZ.out,←HYQ.out];exact HD9.out
     ·have h:=Kd.R_take (m:=l.length) HO9.out HYL.out;rw [HYQ.out,List.take_left' rfl] at h;exact Kd.R_mono h (fun _ _=>trivial)
end Go.Proofs.Ytklknkfoafdgpaa.LiveHandS
