import Derived.Test.YtklknkfoafdgpaaLiveRefA
import Derived.Test.YtklknkfoafdgpaaLiveKept
namespace Go.Proofs.Ytklknkfoafdgpaa.LiveAfterLaw
set_option maxHeartbeats 8000000
set_option maxRecDepth 100000
open RowKit YtklknkfoafdgpaaW.PrintWords YtklknkfoafdgpaaW.PrintLast YtklknkfoafdgpaaW.PrintMore Grow Fam
open PLiveKnown LiveT LiveB LiveInv LiveSet LiveAhead LiveEnd LiveSettled LiveCopied LiveAft LiveRunP LiveSame LiveFit LiveRefP LiveRefA LiveHandP LiveHandC LiveKept
set_option linter.unusedVariables false
set_option linter.unusedSimpArgs false
def RowI (w W:World) (lo hi:Nat) (v:Value) (es:List Int):Prop:=Kd.R (Kd.int .i64) 3 W w.heap.size (fun k=>lo≤k∧k<hi) v es
theorem RowI.step {w W W1:World} {lo hi:Nat} {v:Value} {es:List Int} (h:RowI w W lo hi v es) (hb:Below W.heap.size W W1):RowI w W1 lo hi v es:=Kd.R_below h hb
theorem RowI.new {w W W1:World} {v:Value} {es:List Int} (h:Kd.R (Kd.int .i64) 3 W1 W.heap.size (fun _=>True) v es) (hw:w.heap.size≤W.heap.size):RowI w W1 W.heap.size W1.heap.size v es:=
 Kd.R_reok rfl (Kd.R_lower h hw) (fun k hk=>⟨Kd.R_base h k hk,Kd.R_lt h k hk⟩)
def vs3 (r0 r1 r2:HS):Nat→HS
 |0=>r0
 |1=>r1
 |_=>r2
def ls3 (a b c:List Int):Nat→List Int
 |0=>a
 |1=>b
 |_=>c
theorem given3 {w W:World} {r0 r1 r2:HS} {a0 b0 a1 b1 a2 b2:Nat} {e0 e1 e2:List Int} (h0:RowI w W a0 b0 (hv r0) e0) (h1:RowI w W a1 b1 (hv r1) e1) (h2:RowI w W a2 b2 (hv r2) e2) (hb0:b0≤a1) (hb1:b1≤a2) (h12:a1≤b1) (hb:Below w.heap.size w W):Given (Kd.int .i64) 3 w W (vs3 r0 r1 r2) 3 (ls3 e0 e1 e2):=by
 refine ⟨hb,fun j hj=>?_,fun i hi j hj hne b hbi hbj=>?_⟩
 ·match j,hj with
  |0,_=>exact Kd.R_reok rfl h0 (fun b hb=>hb.symm)
  |1,_=>exact Kd.R_reok rfl h1 (fun b hb=>hb.symm)
  |2,_=>exact Kd.R_reok rfl h2 (fun b hb=>hb.symm)
 ·have k0:∀ b,(hv r0).ownBlock=some b→a0≤b∧b<b0:=h0.1;have k1:∀ b,(hv r1).ownBlock=some b→a1≤b∧b<b1:=h1.1;have k2:∀ b,(hv r2).ownBlock=some b→a2≤b∧b<b2:=h2.1
  match i,hi,j,hj,hbi,hbj with
  |0,_,0,_,_,_=>exact hne rfl
  |1,_,1,_,_,_=>exact hne rfl
  |2,_,2,_,_,_=>exact hne rfl
  |0,_,1,_,hi,hj=>have:=k0 b hi;have:=k1 b hj;omega
  |0,_,2,_,hi,hj=>have:=k0 b hi;have:=k2 b hj;omega
  |1,_,0,_,hi,hj=>have:=k1 b hi;have:=k0 b hj;omega
  |1,_,2,_,hi,hj=>have:=k1 b hi;have:=k2 b hj;omega
  |2,_,0,_,hi,hj=>have:=k2 b hi;have:=k0 b hj;omega
  |2,_,1,_,hi,hj=>have:=k2 b hi;have:=k1 b hj;omega
theorem own3 {r0 r1 r2:HS} {b:Nat} (h:Own (vs3 r0 r1 r2) 3 b):(hv r0).ownBlock=some b∨(hv r1).ownBlock=some b∨(hv r2).ownBlock=some b:=by
 obtain ⟨j,hj,h⟩:=h
 match j,hj,h with
 |0,_,h=>exact .inl h
 |1,_,h=>exact .inr (.inl h)
 |2,_,h=>exact .inr (.inr h)
theorem outer_C {W:World} {o:Nat} {l:List HS} (h:W.heap[o]? =some (.cells (l.map hv).toArray 25 (0,0))) (hl:l.length≤9223372036854775807):kh.C W (some ⟨o,0,none⟩) l.length l:=by
 refine ⟨rfl,hl,fun _=>⟨_,rfl,fun j p hp=>⟨[hv p],rfl,rfl,fun i u hu=>?_⟩⟩⟩;have hi:i=0:=by
  have:=(List.getElem?_eq_some_iff.1 hu).1
  simp at this
  exact this
 subst hi;have hu':hv p=u:=by simpa using hu
 subst hu';have h1:(⟨o,0,none⟩:Addr).add (j*kh.sz+0)=⟨o,j,none⟩:=by
  have:j*kh.sz+0=j:=by show j*1+0=j;omega
  rw [this,Addr.add_lit]
  simp
 rw [h1,blk_cell h j]
 simp [hp]
theorem after_law (fn rg:Int) (Ab:Option Addr) (cb:Nat) (bs:List S43) (block ins ob oi:Int) (V:Nat→RS) (w:World) (hC:Kd.C k43 w Ab bs.length bs) (hcb:bs.length≤cb) (hf:FitC bs) (hh:FitH bs) (hV:Lfp (codeOf bs) V) :
  Calls Try.prog 3 #[.agg #[.int .i64 fn,.int .i64 rg,.slice Ab bs.length cb],.int .i64 block,.int .i64 ins,.int .i64 ob,.int .i64 oi] w fun e w'=>e= .returned (.bool true)∧Below w.heap.size w w':=by
 have HC:=ak hC;have HCB:=ak hcb;have HFT:=ak hf;have HFH:=ak hh;have HV:=ak hV;have HN:Aside0 (bs.length*64≤281474976710656):=⟨by have:=hf.blocks;omega⟩
 have HL1:Aside0 ((after bs V block ins).length≤512):=⟨by unfold after;split;exact regsTo_length _ _;exact Nat.zero_le _⟩
 have HL2:Aside0 ((after bs V ob oi).length≤512):=⟨by unfold after;split;exact regsTo_length _ _;exact Nat.zero_le _⟩
 have RA:Aside0 (∀ W,Kd.C k43 W Ab bs.length bs→∀ x y,Calls Try.prog 9 #[.agg #[.int .i64 fn,.int .i64 rg,.slice Ab bs.length cb],.int .i64 x,.int .i64 y] W fun e w'=>∃ v,e= .returned v∧Kd.R (Kd.int .i64) 3 w' W.heap.size (fun _=>True) v (after bs V x y)∧Below W.heap.size W w'):=⟨fun W hW x y=>rafter_calls fn rg Ab cb bs V x y W hW hcb hf hV⟩
 have PA:Aside0 (∀ W A c,Kd.C k43 W A bs.length bs→∀ x y,Calls Try.prog 11 #[.agg #[.int .i64 fn,.int .i64 rg,.slice A bs.length c],.int .i64 x,.int .i64 y] W fun e w'=>∃ v,e= .returned v∧Kd.R (Kd.int .i64) 3 w' W.heap.size (fun _=>True) v (after bs V x y)∧Below W.heap.size W w'):=⟨fun W A c hW x y=>after_calls fn rg A c bs V x y W hW HN.out hV⟩
 clear hC hcb hf hh hV;generalize hl1:after bs V block ins=l1 at HL1;generalize hl2:after bs V ob oi=l2 at HL2;have E1:=ak hl1;have E2:=ak hl2;clear hl1 hl2
 go_enter Try.func3,Try.ntmps3
 go_wp2_with (first
  |((with_reducible refine gate_dst (N:=5) rfl ?_);refine LiveRunW.zero_event 24 #[.int .i64 fn,.int .i64 rg,.slice Ab bs.length cb] rfl rfl qb ?_;intro g5 w1 hg5 hA5 hb1;have HA5:=ak hA5;have HB1:=ak hb1;have u0:w1.cell? ⟨g5,0,none⟩=some (.int .i64 fn):=(qk hA5 0);have u1:w1.cell? ⟨g5,1,none⟩=some (.int .i64 rg):=(qk hA5 1);have u2:w1.cell? ⟨g5,2,none⟩=some (.slice Ab bs.length cb):=(qk hA5 2);clear hg5 hA5 hb1)
  |(go_at_call_of 9 (Value.int .i64 block);refine (RA.out _ (Kd.C_below HC.out HB1.out) block ins).mono ?_;rw [E1.out];rintro e w2 ⟨vw,rfl,ho,hb2⟩;obtain ⟨Aw,cw,rfl⟩:=Kd.R_slice ho;have HW:=ak ho;have HB2:=ak (below_step HB1.out hb2);replace u0:=pw_cell_below hb2 u0;replace u1:=pw_cell_below hb2 u1;replace u2:=pw_cell_below hb2 u2;clear ho hb2)
  |(go_at_call 10;refine (hand_calls fn rg Ab cb bs _ (Kd.C_below HC.out HB2.out) HFH.out).mono ?_;rintro e wH ⟨gh,A,c,vO,vS,vN,vI,rfl,hk⟩;have HK:=ak hk;have HBH:=ak (below_step HB2.out hk.below);replace u0:=pw_cell_below hk.below u0;replace u1:=pw_cell_below hk.below u1;replace u2:=pw_cell_below hk.below u2;have U0:=ak u0;have U1:=ak u1;have U2:=ak u2;have q0:wH.cell? ⟨gh,0,none⟩=some (.int .i64 fn):=((blk_cell hk.blk 0).trans rfl);have q1:wH.cell? ⟨gh,1,none⟩=some (.int .i64 rg):=((blk_cell hk.blk 1).trans rfl);have q2:wH.cell? ⟨gh,2,none⟩=some (.slice A bs.length c):=((blk_cell hk.blk 2).trans rfl);clear hk))
 have HKC:Aside0 (Kd.C k43 wH A bs.length bs):=⟨(Kd.S_reads' (LiveKept.HK.code HK.out)).2.2⟩
 refine (PA.out _ A c HKC.out block ins).mono ?_;rw [E1.out];rintro e w3 ⟨va,rfl,ho,hb3⟩;obtain ⟨Aa,ca,rfl⟩:=Kd.R_slice ho;have R3:=ak (RowI.new ho (Nat.le_refl wH.heap.size));have N3:Aside0 (wH.heap.size≤w3.heap.size):=⟨hb3.size⟩
 have HB3:=ak hb3;replace u0:=pw_cell_below hb3 u0;replace u1:=pw_cell_below hb3 u1;replace u2:=pw_cell_below hb3 u2;replace q0:=pw_cell_below hb3 q0;replace q1:=pw_cell_below hb3 q1;replace q2:=pw_cell_below hb3 q2;clear ho hb3
 go_wp2_with fail
 refine (PA.out _ A c (Kd.C_below HKC.out HB3.out) ob oi).mono ?_;rw [E2.out];rintro e w4 ⟨vo,rfl,ho,hb4⟩;obtain ⟨Ao,co,rfl⟩:=Kd.R_slice ho;have R4:=ak (RowI.new ho N3.out);have N4:Aside0 (w3.heap.size≤w4.heap.size):=⟨hb4.size⟩
 replace R3:=ak (R3.out.step hb4);have HB4:=ak (below_step HB3.out hb4);replace u0:=pw_cell_below hb4 u0;replace u1:=pw_cell_below hb4 u1;replace u2:=pw_cell_below hb4 u2;replace q0:=pw_cell_below hb4 q0;replace q1:=pw_cell_below hb4 q1;replace q2:=pw_cell_below hb4 q2;clear ho hb4
 go_wp2_with fail
 refine (PA.out _ A c (Kd.C_below HKC.out HB4.out) block ins).mono ?_;rw [E1.out];rintro e w5 ⟨vb,rfl,ho,hb5⟩;obtain ⟨Ab',cb',rfl⟩:=Kd.R_slice ho;have R5:=ak (RowI.new ho HB4.out.size);replace R3:=ak (R3.out.step hb5);replace R4:=ak (R4.out.step hb5);have HB5:=ak (below_step HB4.out hb5);replace u0:=pw_cell_below hb5 u0;replace u1:=pw_cell_below hb5 u1;replace u2:=pw_cell_below hb5 u2;clear ho hb5 q0 q1 q2;have CW:Aside0 (Kd.C (Kd.int .i64) wH Aw l1.length l1∧l1.length≤cw):=⟨by
  have h:=Kd.R_reads' HW.out;exact ⟨Kd.C_below h.2.2 HK.out.below,h.2.1⟩⟩
 have CA:Aside0 (Kd.C (Kd.int .i64) w5 Aa l1.length l1∧l1.length≤ca):=⟨by
  have h:=Kd.R_reads' R3.out;exact ⟨h.2.2,h.2.1⟩⟩
 have CO:Aside0 (Kd.C (Kd.int .i64) w5 Ao l2.length l2∧l2.length≤co):=⟨by
  have h:=Kd.R_reads' R4.out;exact ⟨h.2.2,h.2.1⟩⟩
 have CB:Aside0 (Kd.C (Kd.int .i64) w5 Ab' l1.length l1∧l1.length≤cb'):=⟨by
  have h:=Kd.R_reads' R5.out;exact ⟨h.2.2,h.2.1⟩⟩
 go_wp2_with fail
 refine (ints_calls l1 Aa Aw ca cw _ CA.out.1 CA.out.2 (Kd.C_below CW.out.1 HB5.out) CW.out.2).mono ?_;rintro e w6 ⟨rfl,hb6⟩;have HB6:=ak hb6;replace u0:=pw_cell_below hb6 u0;replace u1:=pw_cell_below hb6 u1;replace u2:=pw_cell_below hb6 u2;clear hb6
 go_wp2_with fail
 refine (ints_calls l1 Ab' Aw cb' cw _ (Kd.C_below CB.out.1 HB6.out) CB.out.2 (Kd.C_below CW.out.1 (below_step HB5.out HB6.out)) CW.out.2).mono ?_;rintro e w7 ⟨rfl,hb7⟩;have HB7:=ak (below_step HB6.out hb7);replace u0:=pw_cell_below hb7 u0;replace u1:=pw_cell_below hb7 u1;replace u2:=pw_cell_below hb7 u2;clear hb7
 go_wp2_with fail
 refine (kept_calls (HK.out.next (below_step HB5.out HB7.out)) HFH.out HFT.out Ab cb (Kd.C_below HC.out (below_step HBH.out (below_step HB5.out HB7.out))) HCB.out).mono ?_;rintro e w8 ⟨rfl,hb8⟩;have HB8:=ak (below_step HB7.out hb8);replace u0:=pw_cell_below hb8 u0;replace u1:=pw_cell_below hb8 u1;replace u2:=pw_cell_below hb8 u2;clear hb8
 go_wp2_with fail
 refine (RA.out _ (Kd.C_below HC.out (below_step HBH.out (below_step HB5.out HB8.out))) ob oi).mono ?_;rw [E2.out];rintro e w9 ⟨vq,rfl,ho,hb9⟩;obtain ⟨Aq,cq,rfl⟩:=Kd.R_slice ho;have CQ:Aside0 (Kd.C (Kd.int .i64) w9 Aq l2.length l2∧l2.length≤cq):=⟨by
  have h:=Kd.R_reads' ho;exact ⟨h.2.2,h.2.1⟩⟩
 have HB9:=ak (below_step HB8.out hb9);replace u0:=pw_cell_below hb9 u0;replace u1:=pw_cell_below hb9 u1;replace u2:=pw_cell_below hb9 u2;clear ho hb9
 go_wp2_with fail
 refine (ints_calls l2 Ao Aq co cq _ (Kd.C_below CO.out.1 HB9.out) CO.out.2 CQ.out.1 CQ.out.2).mono ?_;rintro e w10 ⟨rfl,hb10⟩;have HB10:=ak (below_step HB9.out hb10);replace u0:=pw_cell_below hb10 u0;replace u1:=pw_cell_below hb10 u1;replace u2:=pw_cell_below hb10 u2;clear hb10
 go_wp2_with fail
 have HB5X:Aside0 (Below w5.heap.size w5 (w10.alloc (.cells #[.slice Aa l1.length ca,.slice Ao l2.length co,.slice Ab' l1.length cb'] 25))):=⟨below_step HB10.out (below_alloc (Below.refl _ w10) _)⟩
 have HG:=ak (given3 (w:=wH) (r0:=(Aa,l1.length,ca)) (r1:=(Ao,l2.length,co)) (r2:=(Ab',l1.length,cb')) (R3.out.step HB5X.out) (R4.out.step HB5X.out) (R5.out.step HB5X.out) (Nat.le_refl _) (Nat.le_refl _) N4.out (below_step HB5.out HB5X.out));have HNo:Aside0 (∀ k,Own (vs3 (Aa,l1.length,ca) (Ao,l2.length,co) (Ab',l1.length,cb')) 3 k→k<w10.heap.size):=⟨fun k hk=>by
  have hs:=HB10.out.size
  rcases own3 hk with h |h |h
  ·have:=Kd.R_lt R3.out k h;omega
  ·have:=Kd.R_lt R4.out k h;omega
  ·have:=Kd.R_lt R5.out k h;omega⟩
 refine (apartInts_calls (some ⟨w10.heap.size,0,none⟩) 3 3 _ (fun j=>(ls3 l1 l2 l1 j).length) _ wH _ HG.out (fun _ _=>rfl) (fun W' hk=>outer_C (l:=[(Aa,l1.length,ca),(Ao,l2.length,co),(Ab',l1.length,cb')]) (blk_kept (blk_new _ _) hk (fun h=>by have:=HNo.out _ h;omega)) (by simp)) (fun j hj=>?_) (by decide)).mono ?_
 ·have h1:=HL1.out;have h2:=HL2.out
  match j,hj with
  |0,_=>simp only [ls3];omega
  |1,_=>simp only [ls3];omega
  |2,_=>simp only [ls3];omega
 rintro e w11 ⟨rfl,hb11,_⟩;have HB11:=ak hb11;clear u0 u1 u2;have u0:=pw_cell_below hb11 U0.out;have u1:=pw_cell_below hb11 U1.out;have u2:=pw_cell_below hb11 U2.out;clear hb11
 go_wp2_with fail
 refine (PA.out _ Ab cb (Kd.C_below HC.out (below_step HBH.out HB11.out)) block ins).mono ?_;rw [E1.out];rintro e w12 ⟨vz,rfl,ho,hb12⟩;obtain ⟨Az,cz,rfl⟩:=Kd.R_slice ho;have CZ:Aside0 (Kd.C (Kd.int .i64) w12 Az l1.length l1∧l1.length≤cz):=⟨by
  have h:=Kd.R_reads' ho;exact ⟨h.2.2,h.2.1⟩⟩
 have HB12:=ak (below_step HB11.out hb12);clear ho hb12 u0 u1 u2
 go_wp2_with fail
 refine (ints_calls l1 Az Aw cz cw _ CZ.out.1 CZ.out.2 (Kd.C_below CW.out.1 HB12.out) CW.out.2).mono ?_;rintro e w13 ⟨rfl,hb13⟩;have HB13:=ak (below_step HB12.out hb13);clear hb13
 go_wp2_with fail
 go_ret
 exact ⟨rfl,below_step HBH.out HB13.out⟩
end Go.Proofs.Ytklknkfoafdgpaa.LiveAfterLaw
