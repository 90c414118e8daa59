import Derived.Test.YtklknkfoafdgpaaLiveKn
import Derived.Test.YtklknkfoafdgpaaLiveSame
import Derived.Test.YtklknkfoafdgpaaLiveRunW
import Derived.Test.YtklknkfoafdgpaaPLiveKnownx6
import Derived.Test.YtklknkfoafdgpaaWMore
namespace Go.Proofs.Ytklknkfoafdgpaa.LiveShown
set_option maxHeartbeats 8000000
set_option maxRecDepth 100000
open RowKit YtklknkfoafdgpaaW.PrintWords YtklknkfoafdgpaaW.PrintLast YtklknkfoafdgpaaW.PrintMore
open PLiveKnown LiveT LiveB LiveSet LiveAhead LiveEnd LiveInv LiveSettled LiveCopied LiveAft LiveRunP LiveRunW LiveSame LiveKn
set_option linter.unusedVariables false
set_option linter.unusedSimpArgs false
theorem reg_calls (r:Int) (w:World):Calls Try.prog 44 #[.int .i64 r] w fun e w'=>e= .returned (.agg #[.int .i64 0,.int .i64 r])∧Below w.heap.size w w':=zreg.calls r 0 r w rfl
theorem shape_calls (r s:Int) (w:World):Calls Try.prog 62 #[.int .i64 r,.int .i64 s] w fun e w'=>∃ v,e= .returned v∧Kd.R k78 78 w' w.heap.size (fun _=>True) v [⟨0,0,[⟨0,r⟩,⟨0,s⟩]⟩]∧Below w.heap.size w w':=by
 have HB:=ak (Below.refl w.heap.size w)
 go_enter Try.func62,Try.ntmps62
 go_wp2_with (first
  |(go_at_call_of 44 (Value.int .i64 r);refine (reg_calls r _).mono ?_;rintro e w1 ⟨rfl,hb1⟩;replace HB:=ak (below_step HB.out hb1);clear hb1)
  |(go_at_call_of 44 (Value.int .i64 s);refine (reg_calls s _).mono ?_;rintro e w2 ⟨rfl,hb2⟩;replace HB:=ak (below_step HB.out hb2);clear hb2)
  |((with_reducible refine gate_dst (N:=9) rfl ?_);refine Kd.R_lit k82 (w0:=w) w.heap.size 82 rfl (N:=9) rfl (xs:=[⟨0,r⟩,⟨0,s⟩]) (inner:=[.int .i64 0,.int .i64 r,.int .i64 0,.int .i64 s]) (ok:=fun _=>True) (okp:=fun _=>True) qb (Reps.front (k82_mkM _ _ _ ⟨0,r⟩) rfl (Reps.front (k82_mkM _ _ _ ⟨0,s⟩) rfl (Reps.none _ _) rfl) rfl) (fun _ hk=>hk) trivial HB.out HB.out.size (by simp) ?_;intro v9 u9 ho hb _ hnew;clear hnew;obtain ⟨a9,c9,rfl⟩:=Kd.R_slice ho;replace HB:=ak hb;have H9:=ak ho;clear ho hb)
  |((with_reducible refine gate_dst (N:=11) rfl ?_);refine Kd.R_lit k78 (w0:=w) w.heap.size 78 rfl (N:=11) rfl (xs:=[⟨0,0,[⟨0,r⟩,⟨0,s⟩]⟩]) (inner:=[.int .i64 0,.int .i64 0,.slice a9 2 c9]) (ok:=fun _=>True) (okp:=fun _=>True) qb (Reps.front (k78_mkM _ _ _ ⟨0,0,[⟨0,r⟩,⟨0,s⟩]⟩ H9.out) rfl (Reps.none _ _) rfl) (fun _ hk=>hk) trivial HB.out HB.out.size (by simp) ?_;intro v11 u11 ho hb _ hnew;clear hnew;obtain ⟨a11,c11,rfl⟩:=Kd.R_slice ho;replace HB:=ak hb;have H11:=ak ho;clear ho hb))
 go_ret
 exact ⟨_,rfl,H11.out,HB.out⟩
theorem known_calls (w:World):Calls Try.prog 43 #[] w fun e w'=>∃ v,e= .returned (.agg #[.int .i64 0,.int .i64 4,v])∧Kd.R k43 43 w' w.heap.size (fun _=>True) v known∧Below w.heap.size w w':=by
 go_enter Try.func43,Try.ntmps43
 go_wp2_with (first
  |((with_reducible refine gate_dst (N:=0) rfl ?_);refine zero_event 24 #[.int .i64 0,.int .i64 0,.slice none 0 0] rfl rfl qb ?_;intro g0 w0 hg0 hA0 hb0;have HG0:=ak hg0;have HA0:=ak hA0;have HB0:=ak hb0;have HB:=ak (Below.refl w0.heap.size w0);clear hg0 hA0 hb0)
  |((with_reducible refine gate_dst (N:=2) rfl ?_);refine Kd.R_lit (Kd.int .i64) (w0:=w0) w0.heap.size 3 rfl (N:=2) rfl (xs:=[1]) (inner:=[.int .i64 1]) (ok:=fun _=>True) (okp:=fun _=>True) qb (Reps.front (c:=[.int .i64 1]) rfl rfl (Reps.none _ _) rfl) (fun _ hk=>hk) trivial HB.out HB.out.size (by simp) ?_;intro v2 u2 ho hb hg hnew;clear hnew;obtain ⟨a2,c2,rfl⟩:=Kd.R_slice ho;replace HB:=ak hb;have H2:=ak ho;clear ho hb hg)
  |(go_at_call_of 44 (Value.int .i64 0);refine (reg_calls 0 _).mono ?_;rintro e u44 ⟨rfl,hb⟩;replace HB:=ak (below_step HB.out hb);replace H2:=ak (Kd.R_below H2.out hb);clear hb)
  |((with_reducible refine gate_dst (N:=4) rfl ?_);refine Kd.R_lit k82 (w0:=w0) w0.heap.size 82 rfl (N:=4) rfl (xs:=[⟨0,0⟩]) (inner:=[.int .i64 0,.int .i64 0]) (ok:=fun _=>True) (okp:=fun _=>True) qb (Reps.front (k82_mkM _ _ _ ⟨0,0⟩) rfl (Reps.none _ _) rfl) (fun _ hk=>hk) trivial HB.out HB.out.size (by simp) ?_;intro v4 u4 ho hb hg hnew;clear hnew;obtain ⟨a4,c4,rfl⟩:=Kd.R_slice ho;replace HB:=ak hb;replace H2:=ak (Kd.R_grown H2.out hg (fun _ _ he=>by simp at he));have H4:=ak ho;clear ho hb hg)
  |(go_at_call_of 44 (Value.int .i64 2);refine (reg_calls 2 _).mono ?_;rintro e u44 ⟨rfl,hb⟩;replace HB:=ak (below_step HB.out hb);replace H2:=ak (Kd.R_below H2.out hb);replace H4:=ak (Kd.R_below H4.out hb);clear hb)
  |((with_reducible refine gate_dst (N:=8) rfl ?_);refine Kd.R_lit k82 (w0:=w0) w0.heap.size 82 rfl (N:=8) rfl (xs:=[⟨0,2⟩,⟨3,5⟩]) (inner:=[.int .i64 0,.int .i64 2,.int .i64 3,.int .i64 5]) (ok:=fun _=>True) (okp:=fun _=>True) qb (Reps.front (k82_mkM _ _ _ ⟨0,2⟩) rfl (Reps.front (k82_mkM _ _ _ ⟨3,5⟩) rfl (Reps.none _ _) rfl) rfl) (fun _ hk=>hk) trivial HB.out HB.out.size (by simp) ?_;intro v8 u8 ho hb hg hnew;clear hnew;obtain ⟨a8,c8,rfl⟩:=Kd.R_slice ho;replace HB:=ak hb;replace H2:=ak (Kd.R_grown H2.out hg (fun _ _ he=>by simp at he));replace H4:=ak (Kd.R_grown H4.out hg (fun _ _ he=>by simp at he));have H8:=ak ho;clear ho hb hg)
  |((with_reducible refine gate_dst (N:=11) rfl ?_);refine Kd.R_lit k82 (w0:=w0) w0.heap.size 82 rfl (N:=11) rfl (xs:=[⟨1,0⟩]) (inner:=[.int .i64 1,.int .i64 0]) (ok:=fun _=>True) (okp:=fun _=>True) qb (Reps.front (k82_mkM _ _ _ ⟨1,0⟩) rfl (Reps.none _ _) rfl) (fun _ hk=>hk) trivial HB.out HB.out.size (by simp) ?_;intro v11 u11 ho hb hg hnew;clear hnew;obtain ⟨a11,c11,rfl⟩:=Kd.R_slice ho;replace HB:=ak hb;replace H2:=ak (Kd.R_grown H2.out hg (fun _ _ he=>by simp at he));replace H4:=ak (Kd.R_grown H4.out hg (fun _ _ he=>by simp at he));replace H8:=ak (Kd.R_grown H8.out hg (fun _ _ he=>by simp at he));have H11:=ak ho;clear ho hb hg)
  |(go_at_call_of 62 (Value.int .i64 2);refine (shape_calls 0 2 _).mono ?_;rintro e u62 ⟨v14,rfl,ho,hb⟩;obtain ⟨a14,c14,rfl⟩:=Kd.R_slice ho;have H14:=ak (Kd.R_lower ho HB.out.size);replace HB:=ak (below_step HB.out hb);replace H2:=ak (Kd.R_below H2.out hb);replace H4:=ak (Kd.R_below H4.out hb);replace H8:=ak (Kd.R_below H8.out hb);replace H11:=ak (Kd.R_below H11.out hb);clear ho hb)
  |((with_reducible refine gate_dst (N:=17) rfl ?_);refine Kd.R_lit k47 (w0:=w0) w0.heap.size 47 rfl (N:=17) rfl (xs:=([⟨1,0,2,[⟨0,0⟩],0,0,0,[]⟩,⟨2,12,3,[⟨0,2⟩,⟨3,5⟩],2,0,0,[]⟩,⟨1,0,2,[⟨1,0⟩],0,0,0,[]⟩,⟨6,0,-1,[],0,0,0,[⟨0,0,[⟨0,0⟩,⟨0,2⟩]⟩]⟩,⟨7,0,-1,[],0,0,0,[]⟩]:List S47)) (inner:=[.int .i64 1,.int .i64 0,.int .i64 2,.slice a4 1 c4,.int .i64 0,.int .i64 0,.int .i64 0,.slice none 0 0,.int .i64 2,.int .i64 12,.int .i64 3,.slice a8 2 c8,.int .i64 2,.int .i64 0,.int .i64 0,.slice none 0 0,.int .i64 1,.int .i64 0,.int .i64 2,.slice a11 1 c11,.int .i64 0,.int .i64 0,.int .i64 0,.slice none 0 0,.int .i64 6,.int .i64 0,.int .i64 (-1),.slice none 0 0,.int .i64 0,.int .i64 0,.int .i64 0,.slice a14 1 c14,.int .i64 7,.int .i64 0,.int .i64 (-1),.slice none 0 0,.int .i64 0,.int .i64 0,.int .i64 0,.slice none 0 0]) (ok:=fun _=>True) (okp:=fun _=>True) qb (Reps.front (k47_mkM _ _ _ ⟨1,0,2,[⟨0,0⟩],0,0,0,[]⟩ (H4.out) (Kd.R_nil _ _ _ _ _)) rfl (Reps.front (k47_mkM _ _ _ ⟨2,12,3,[⟨0,2⟩,⟨3,5⟩],2,0,0,[]⟩ (H8.out) (Kd.R_nil _ _ _ _ _)) rfl (Reps.front (k47_mkM _ _ _ ⟨1,0,2,[⟨1,0⟩],0,0,0,[]⟩ (H11.out) (Kd.R_nil _ _ _ _ _)) rfl (Reps.front (k47_mkM _ _ _ ⟨6,0,-1,[],0,0,0,[⟨0,0,[⟨0,0⟩,⟨0,2⟩]⟩]⟩ (Kd.R_nil _ _ _ _ _) (H14.out)) rfl (Reps.front (k47_mkM _ _ _ ⟨7,0,-1,[],0,0,0,[]⟩ (Kd.R_nil _ _ _ _ _) (Kd.R_nil _ _ _ _ _)) rfl (Reps.none _ _) rfl) rfl) rfl) rfl) rfl) (fun _ hk=>hk) trivial HB.out HB.out.size (by simp) ?_;intro v17 u17 ho hb hg hnew;clear hnew;obtain ⟨a17,c17,rfl⟩:=Kd.R_slice ho;replace HB:=ak hb;replace H2:=ak (Kd.R_grown H2.out hg (fun _ _ he=>by simp at he));have H17:=ak ho;clear ho hb hg)
  |(go_at_call_of 62 (Value.int .i64 1);have hx:=H20.out;refine (shape_calls 0 1 _).mono ?_;rintro e u62 ⟨v23,rfl,ho,hb⟩;obtain ⟨a23,c23,rfl⟩:=Kd.R_slice ho;have H23:=ak (Kd.R_lower ho HB.out.size);replace HB:=ak (below_step HB.out hb);replace H2:=ak (Kd.R_below H2.out hb);replace H17:=ak (Kd.R_below H17.out hb);replace H20:=ak (Kd.R_below H20.out hb);clear ho hb)
  |(go_at_call_of 62 (Value.int .i64 1);refine (shape_calls 0 1 _).mono ?_;rintro e u62 ⟨v20,rfl,ho,hb⟩;obtain ⟨a20,c20,rfl⟩:=Kd.R_slice ho;have H20:=ak (Kd.R_lower ho HB.out.size);replace HB:=ak (below_step HB.out hb);replace H2:=ak (Kd.R_below H2.out hb);replace H17:=ak (Kd.R_below H17.out hb);clear ho hb)
  |((with_reducible refine gate_dst (N:=25) rfl ?_);refine Kd.R_lit k47 (w0:=w0) w0.heap.size 47 rfl (N:=25) rfl (xs:=([⟨6,0,-1,[],0,0,0,[⟨0,0,[⟨0,0⟩,⟨0,1⟩]⟩]⟩,⟨9,0,-1,[],0,0,0,[⟨0,0,[⟨0,0⟩,⟨0,1⟩]⟩]⟩]:List S47)) (inner:=[.int .i64 6,.int .i64 0,.int .i64 (-1),.slice none 0 0,.int .i64 0,.int .i64 0,.int .i64 0,.slice a20 1 c20,.int .i64 9,.int .i64 0,.int .i64 (-1),.slice none 0 0,.int .i64 0,.int .i64 0,.int .i64 0,.slice a23 1 c23]) (ok:=fun _=>True) (okp:=fun _=>True) qb (Reps.front (k47_mkM _ _ _ ⟨6,0,-1,[],0,0,0,[⟨0,0,[⟨0,0⟩,⟨0,1⟩]⟩]⟩ (Kd.R_nil _ _ _ _ _) (H20.out)) rfl (Reps.front (k47_mkM _ _ _ ⟨9,0,-1,[],0,0,0,[⟨0,0,[⟨0,0⟩,⟨0,1⟩]⟩]⟩ (Kd.R_nil _ _ _ _ _) (H23.out)) rfl (Reps.none _ _) rfl) rfl) (fun _ hk=>hk) trivial HB.out HB.out.size (by simp) ?_;intro v25 u25 ho hb hg hnew;clear hnew;obtain ⟨a25,c25,rfl⟩:=Kd.R_slice ho;replace HB:=ak hb;replace H2:=ak (Kd.R_grown H2.out hg (fun _ _ he=>by simp at he));replace H17:=ak (Kd.R_grown H17.out hg (fun _ _ he=>by simp at he));have H25:=ak ho;clear ho hb hg)
  |((with_reducible refine gate_dst (N:=27) rfl ?_);refine Kd.R_lit k43 (w0:=w0) w0.heap.size 43 rfl (N:=27) rfl (xs:=([⟨0,[⟨1,0,2,[⟨0,0⟩],0,0,0,[]⟩,⟨2,12,3,[⟨0,2⟩,⟨3,5⟩],2,0,0,[]⟩,⟨1,0,2,[⟨1,0⟩],0,0,0,[]⟩,⟨6,0,-1,[],0,0,0,[⟨0,0,[⟨0,0⟩,⟨0,2⟩]⟩]⟩,⟨7,0,-1,[],0,0,0,[]⟩],[1]⟩,⟨9,[⟨6,0,-1,[],0,0,0,[⟨0,0,[⟨0,0⟩,⟨0,1⟩]⟩]⟩,⟨9,0,-1,[],0,0,0,[⟨0,0,[⟨0,0⟩,⟨0,1⟩]⟩]⟩],[]⟩]:List S43)) (inner:=[.int .i64 0,.slice a17 5 c17,.slice a2 1 c2,.int .i64 9,.slice a25 2 c25,.slice none 0 0]) (ok:=fun _=>True) (okp:=fun _=>True) qb (Reps.front (k43_mkM _ _ _ ⟨0,[⟨1,0,2,[⟨0,0⟩],0,0,0,[]⟩,⟨2,12,3,[⟨0,2⟩,⟨3,5⟩],2,0,0,[]⟩,⟨1,0,2,[⟨1,0⟩],0,0,0,[]⟩,⟨6,0,-1,[],0,0,0,[⟨0,0,[⟨0,0⟩,⟨0,2⟩]⟩]⟩,⟨7,0,-1,[],0,0,0,[]⟩],[1]⟩ (H17.out) (H2.out)) rfl (Reps.front (k43_mkM _ _ _ ⟨9,[⟨6,0,-1,[],0,0,0,[⟨0,0,[⟨0,0⟩,⟨0,1⟩]⟩]⟩,⟨9,0,-1,[],0,0,0,[⟨0,0,[⟨0,0⟩,⟨0,1⟩]⟩]⟩],[]⟩ (H25.out) (Kd.R_nil _ _ _ _ _)) rfl (Reps.none _ _) rfl) rfl) (fun _ hk=>hk) trivial HB.out HB.out.size (by simp) ?_;intro v27 u27 ho hb hg hnew;clear hnew;obtain ⟨a27,c27,rfl⟩:=Kd.R_slice ho;replace HB:=ak hb;have H27:=ak ho;have hA27:=(HB.out.block g0 (blk_lt HA0.out)).trans HA0.out;have HA27:=ak hA27;have z0:u27.cell? ⟨g0,0,none⟩=some (.int .i64 0):=(qk hA27 0);have z1:u27.cell? ⟨g0,1,none⟩=some (.int .i64 0):=(qk hA27 1);have z2:u27.cell? ⟨g0,2,none⟩=some (.slice none 0 0):=(qk hA27 2);have y0:=blk_frozen hA27 0;have y1:=blk_frozen hA27 1;have y2:=blk_frozen hA27 2;clear hA27;clear ho hb hg))
 refine bodyPost_ret (results_cell_row rfl _ _ g0 24 _ (0,0) _ rfl (blk_put (blk_put (blk_put HA27.out 0 _ rfl) 1 _ rfl) 2 _ rfl) Try.underlying24 rfl (by kernel_rfl)) rfl ?_;have hl0:g0<w0.heap.size:=blk_lt HA0.out;have hRb:=Kd.R_mono (Kd.R_bound H27.out) (fun k hk=>(by have:=hk.2.1;omega:k≠g0));refine ⟨_,rfl,Kd.R_mono (Kd.R_lower (Kd.R_far (Kd.R_far (Kd.R_far hRb (fun _ hk=>hk) _) (fun _ hk=>hk) _) (fun _ hk=>hk) _) HB0.out.size) (fun _ _=>trivial),?_⟩;have hb:=below_step HB0.out HB.out;exact below_set (below_set (below_set hb HG0.out) HG0.out) HG0.out
end Go.Proofs.Ytklknkfoafdgpaa.LiveShown
namespace Go.Proofs.Ytklknkfoafdgpaa.LiveFit
open RowKit YtklknkfoafdgpaaW.PrintWords YtklknkfoafdgpaaW.PrintLast YtklknkfoafdgpaaW.PrintMore
open PLiveKnown LiveT LiveAhead LiveSettled LiveCopied LiveRunP LiveSame
set_option linter.unusedVariables false
set_option linter.unusedSimpArgs false
theorem strip_length (l:List S47) (S:RS):(strip iOf l S).length≤l.length:=by
 induction l with
 |nil=>exact Nat.le_refl _
 |cons x l ih =>
  simp only [strip]
  split
  ·simp only [List.length_cons];omega
  ·simp only [List.length_cons];omega
theorem strip_mem (l:List S47) (S:RS) (x:S47) (h:x∈strip iOf l S):x∈l:=by
 induction l with
 |nil=>simp [strip] at h
 |cons y l ih =>
  simp only [strip] at h
  split at h
  ·exact List.mem_cons_of_mem _ (ih h)
  ·rcases List.mem_cons.mp h with h |h
   ·rw [h];exact List.mem_cons_self
   ·exact List.mem_cons_of_mem _ (ih h)
theorem fit_mem {l:List S47} (h:∀ i,i<l.length→Fit47 (rd_T47 l i)) (x:S47) (hx:x∈l):Fit47 x:=by
 obtain ⟨i,hi,rfl⟩:=List.getElem_of_mem hx;have:=h i hi
 rwa [rd47 l i hi] at this
theorem rd_run (bs:List S43) (V:Nat→RS) (b:Nat) (hb:b<bs.length):rd_T43 (runBs bs V) b=runB bs.length V (rd_T43 bs b):=by
 rw [rd43 _ b (by rw [runBs_length];exact hb),rd43 bs b hb]
 simp [runBs]
theorem fit_run {bs:List S43} (h:FitC bs) (V:Nat→RS):FitC (runBs bs V):=by
 refine ⟨by rw [runBs_length];exact h.blocks,fun b hb=>?_,fun b hb=>?_,fun b hb i hi=>?_⟩
 ·rw [runBs_length] at hb;rw [rd_run bs V b hb];have h1:=h.ins b hb;have h2:(runB bs.length V (rd_T43 bs b)).f1.length≤(rd_T43 bs b).f1.length:=strip_length _ _;omega
 ·rw [runBs_length] at hb;rw [rd_run bs V b hb];exact h.next b hb
 ·rw [runBs_length] at hb;rw [rd_run bs V b hb] at hi ⊢;rw [rd47 _ i hi];exact fit_mem (h.each b hb) _ (strip_mem _ _ _ (List.getElem_mem _))
theorem ints_calls (l:List Int) (A A1:Option Addr) (c c1:Nat) (w:World) (h:Kd.C (Kd.int .i64) w A l.length l) (hc:l.length≤c) (h1:Kd.C (Kd.int .i64) w A1 l.length l) (hc1:l.length≤c1) :
  Calls Try.prog 12 #[.slice A l.length c,.slice A1 l.length c1] w fun e w'=>e= .returned (.bool true)∧Below w.heap.size w w':=by
 obtain ⟨k,hk⟩:=(ints_self l (Kd.C_max h)).rounds;exact (zSameInts.calls k A c l A1 c1 l true w h hc h1 hc1 hk).mono (fun e w' hh=>⟨hh.1,hh.2.below⟩)
end Go.Proofs.Ytklknkfoafdgpaa.LiveFit
