import Derived.Test.YtklknkfoafdgpaaLiveSame
import Derived.Test.YtklknkfoafdgpaaPLiveKnownx10
namespace Go.Proofs.Ytklknkfoafdgpaa.LiveEqO
open RowKit YtklknkfoafdgpaaW.PrintWords YtklknkfoafdgpaaW.PrintLast YtklknkfoafdgpaaW.PrintMore
open PLiveKnown LiveT LiveSet LiveAhead LiveSettled LiveRunP LiveSame
set_option linter.unusedVariables false
set_option linter.unusedSimpArgs false
theorem opnds59_calls (l:List S82) (A A1:Option Addr) (c c1:Nat) (w:World) (h:Kd.C k82 w A l.length l) (hc:l.length≤c) (h1:Kd.C k82 w A1 l.length l) (hc1:l.length≤c1) :
  Calls Try.prog 59 #[.slice A l.length c,.slice A1 l.length c1] w fun e w'=>e= .returned (.bool true)∧Below w.heap.size w w':=by
 obtain ⟨t,ht,hiff⟩:=opnds_ev l l (Kd.C_max h);rw [hiff.mpr rfl] at ht;obtain ⟨k,hk⟩:=ht.rounds;exact (zSameOpnds.calls k A c l A1 c1 l true w h hc h1 hc1 hk).mono (fun e w' hh=>⟨hh.1,hh.2.below⟩)
theorem oloop {β:Type} (n:Nat) (g:Nat→Int→Option β) (r:β) (hstop:Ev (fun k=>g k (n:Int)) r) (hstep:∀ i,i<n→Ev (fun k=>g k ((i+1:Nat):Int)) r→Ev (fun k=>g k (i:Int)) r):Ev (fun k=>g k 0) r:=by
 have key:∀ d i,n-i=d→i≤n→Ev (fun k=>g k (i:Int)) r:=by
  intro d
  induction d with
  |zero =>
   intro i hd hi;obtain rfl:i=n:=by omega
   exact hstop
  |succ d ih =>
   intro i hd hi;exact hstep i (by omega) (ih (i+1) (by omega) (by omega))
 exact key _ 0 rfl (Nat.zero_le _)
theorem oself (l:List S82) (hl:l.length≤9223372036854775807):Ev (fun k=>zsameOpnds.f k l l) true:=by
 refine Ev.congr (f:=fun k=>zsameOpnds.l0 k l l 0) (fun k=>by unfold zsameOpnds.f;rw [if_pos rfl]) ?_;refine oloop l.length (fun k i=>zsameOpnds.l0 k l l i) true (Ev.step (fun k=>by simp only [zsameOpnds.l0];rw [if_neg (by omega)]) (Ev.now _)) (fun i hi hr=>Ev.step (fun k=>?_) hr);simp only [zsameOpnds.l0];rw [if_pos (by omega),if_pos (by omega),if_pos (by omega),if_neg (by simp),wrap_nat i _ hi hl]
theorem opnds66_calls (l:List S82) (A A1:Option Addr) (c c1:Nat) (w:World) (h:Kd.C k82 w A l.length l) (hc:l.length≤c) (h1:Kd.C k82 w A1 l.length l) (hc1:l.length≤c1) :
  Calls Try.prog 66 #[.slice A l.length c,.slice A1 l.length c1] w fun e w'=>e= .returned (.bool true)∧Below w.heap.size w w':=by
 obtain ⟨k,hk⟩:=(oself l (Kd.C_max h)).rounds;exact (zsameOpnds.calls k A c l A1 c1 l true w h hc h1 hc1 hk).mono (fun e w' hh=>⟨hh.1,hh.2.below⟩)
end Go.Proofs.Ytklknkfoafdgpaa.LiveEqO
namespace Go.Proofs.Ytklknkfoafdgpaa.LiveEqS60
set_option maxHeartbeats 8000000
set_option maxRecDepth 100000
open RowKit YtklknkfoafdgpaaW.PrintWords YtklknkfoafdgpaaW.PrintLast YtklknkfoafdgpaaW.PrintMore
open PLiveKnown LiveT LiveB LiveSet LiveEqO
set_option linter.unusedVariables false
set_option linter.unusedSimpArgs false
def r60_6_T:Bool×List (List Nat×List Nat):=(true,[([],[]),([],[]),([0,1],[0,1]),([2],[2]),([3],[3]),([],[]),([],[]),([5,6],[5,6]),([7],[7]),([8],[8]),([4,9],[4,9]),([10],[10]),([11],[11]),([11],[11]),([12,13,11],[11,12,13]),([14,11],[11,14]),([15,11],[11,15]),([11],[11]),([11],[11]),([17,18,11],[11,17,18]),([19,11],[11,19]),([20,11],[11,20]),([16,21,11],[11,16,21]),([11,22],[11,22]),([23,11],[23]),([24],[24]),([24],[24]),([25,26,24],[24,25,26]),([27,24],[24,27]),([28,24],[24,28]),([24],[24]),([24],[24]),([30,31,24],[24,30,31]),([32,24],[24,32]),([33,24],[24,33]),([29,34,24,24],[24,29,34]),([35,24],[24,35]),([24,36],[24,36])])
def r60_6_B:List Nat:=[0,0,3,7,15,0,0,96,224,480,1023,2047,4095,4095,16383,32767,65535,4095,4095,397311,921599,1970175,4194303,8388607,16777215,33554431,33554431,134217727,268435455,536870911,33554431,33554431,3254779903,7549747199,16139681791,34359738367,68719476735,137438953471]
theorem r60_6_tab:rtab .any (opsOf Try.f60 6)=r60_6_T:=by kernel_rfl
theorem r60_6_bits:waitsOk r60_6_T.2 r60_6_B=true:=by kernel_rfl
theorem shapes60_calls (l:List S78) (A A1:Option Addr) (c c1:Nat) (w:World) (h:Kd.C k78 w A l.length l) (h1:Kd.C k78 w A1 l.length l) :
  Calls Try.prog 60 #[.slice A l.length c,.slice A1 l.length c1] w fun e w'=>e= .returned (.bool true)∧Below w.heap.size w w':=by
 have H0:=ak h;have H1:=ak h1;have hlm:l.length≤9223372036854775807:=Kd.C_max h;clear h h1
 go_enter Try.func60,Try.ntmps60
 go_wp2_with fail
 go_loopw [5] (fun v5 wi=>∃ i:Nat,i≤l.length∧v5= .int .i64 i∧Aside0 (Below w.heap.size w wi)) (fun v5 _=>l.length-(intOf v5).toNat)
 case atStart=>exact ⟨0,by omega,rfl,⟨Below.refl _ w⟩⟩
 case round =>
  obtain ⟨i,hi,rfl,HB⟩:=hrel
  by_cases hlt:i<l.length
  ·obtain ⟨ad,B,d,e1,p0,p1,p2,hd,hD⟩:=at_T78 H0.out (i:Int) (by omega) (by omega);obtain ⟨ae,B',d',e2,q0,q1,q2,hd',hE⟩:=at_T78 H1.out (i:Int) (by omega) (by omega);simp only [Int.toNat_natCast] at p0 p1 p2 q0 q1 q2;subst e1 e2;generalize rd_T78 l (i:Int)=x at *;have hli:(i:Int)<l.length:=by omega
   have HLT:=ak hlt;have HD:=ak hD;have HE:=ak hE;have HDL:=ak hd;have HEL:=ak hd';have HBD:=ak (below_drew1 HB.out);have Z0:Aside0 (wr.drew.cell? (ad.add (i*3))=some (.int .i64 x.f0)):=⟨pw_cell_below HB.out p0⟩
   have Z1:Aside0 (wr.drew.cell? ⟨(ad.add (i*3)).block,(ad.add (i*3)).off+1,none⟩=some (.int .i64 x.f1)):=⟨pw_cell_below HB.out p1⟩
   have Z2:Aside0 (wr.drew.cell? ⟨(ad.add (i*3)).block,(ad.add (i*3)).off+2,none⟩=some (.slice B x.f2.length d)):=⟨pw_cell_below HB.out p2⟩
   have Z3:Aside0 (wr.drew.cell? (ae.add (i*3))=some (.int .i64 x.f0)):=⟨pw_cell_below HB.out q0⟩
   have Z4:Aside0 (wr.drew.cell? ⟨(ae.add (i*3)).block,(ae.add (i*3)).off+1,none⟩=some (.int .i64 x.f1)):=⟨pw_cell_below HB.out q1⟩
   have Z5:Aside0 (wr.drew.cell? ⟨(ae.add (i*3)).block,(ae.add (i*3)).off+2,none⟩=some (.slice B' x.f2.length d')):=⟨pw_cell_below HB.out q2⟩
   clear p0 p1 p2 q0 q1 q2 hD hE hd hd' hlt hi
   go_wp2_with fail
   refine start_ (n:=38) (S:=fun w'=>w'.cell? (ad.add (i*3))=some (.int .i64 x.f0)∧w'.cell? ⟨(ad.add (i*3)).block,(ad.add (i*3)).off+1,none⟩=some (.int .i64 x.f1)∧w'.cell? ⟨(ad.add (i*3)).block,(ad.add (i*3)).off+2,none⟩=some (.slice B x.f2.length d)∧w'.cell? (ae.add (i*3))=some (.int .i64 x.f0)∧w'.cell? ⟨(ae.add (i*3)).block,(ae.add (i*3)).off+1,none⟩=some (.int .i64 x.f1)∧w'.cell? ⟨(ae.add (i*3)).block,(ae.add (i*3)).off+2,none⟩=some (.slice B' x.f2.length d')) (ds:=[]) (bz 38 0) (by kernel_rfl) rfl rfl ⟨Z0.out,Z1.out,Z2.out,Z3.out,Z4.out,Z5.out⟩ (fun hHeld=>?_)
   refine with_tabW r60_6_tab r60_6_bits (fun HT_ HW_=>?_);generalize World.drew wr=W2 at HBD Z0 Z1 Z2 Z3 Z4 Z5 hHeld ⊢;refine pu 0 17 38 1 ?_;refine pu 1 18 38 2 ?_;refine pu 2 19 38 3 ?_;refine pu 3 20 38 4 ?_;refine tk 4 21 38 5 ?_;refine pu 5 22 38 6 ?_;refine pu 6 23 38 7 ?_;refine pu 7 24 38 8 ?_;refine pu 8 25 38 9 ?_;refine tk 9 26 38 10 ?_;refine pu 10 27 38 11 ?_;refine pu 11 28 38 12 ?_;refine pu 12 29 38 13 ?_;refine pu 13 30 38 14 ?_;refine pu 14 31 38 15 ?_;refine pu 15 32 38 16 ?_;refine tk 16 33 38 17 ?_;refine pu 17 34 38 18 ?_;refine pu 18 35 38 19 ?_
   refine pu 19 36 38 20 ?_;refine pu 20 37 38 21 ?_;refine tk 21 38 38 22 ?_;refine pu 22 39 38 23 ?_;refine pu 23 40 38 24 ?_;refine pu 24 41 38 25 ?_;refine pu 25 42 38 26 ?_;refine pu 26 43 38 27 ?_;refine pu 27 44 38 28 ?_;refine pu 28 45 38 29 ?_;refine tk 29 46 38 30 ?_;refine pu 30 47 38 31 ?_;refine pu 31 48 38 32 ?_;refine pu 32 49 38 33 ?_;refine pu 33 50 38 34 ?_;refine tk 34 51 38 35 ?_;refine one_ (i:=35) (N:=some 52) (bz 38 36) rfl rfl (one_of HT_.out (by kernel_rfl)) (by decide) (fun K hK=>?_)
   refine goes_ Try.func59 (by kernel_rfl) rfl #[.slice B x.f2.length d,.slice B' x.f2.length d'] (by rfl) rfl rfl (by (try simp only [List.map_toArray,List.map_cons,List.map_nil]);first |done |rfl) ?_;refine (opnds59_calls x.f2 B B' d d' W2 (Kd.C_below HD.out HBD.out) HDL.out (Kd.C_below HE.out HBD.out) HEL.out).mono ?_;rintro e w6 ⟨rfl,hb6⟩;refine ⟨_,rfl,?_⟩;have HB6:=ak (below_step HBD.out hb6)
   refine hK.out _ _ ⟨pw_cell_below hb6 Z0.out,pw_cell_below hb6 Z1.out,pw_cell_below hb6 Z2.out,pw_cell_below hb6 Z3.out,pw_cell_below hb6 Z4.out,pw_cell_below hb6 Z5.out⟩ (fun hHeld=>?_);clear hK K;refine norm_ (a':=?_) ?_ ?_;rotate_left
   ·show Act.put _ (some 52) _=_
    simp only [Act.put,sA,sB,sC,i64_w,i32_w];rfl
   clear hb6;refine pu 36 53 38 37 ?_;refine pu 37 54 38 38 ?_;refine done_ (done_of HT_.out (by kernel_rfl)) ?_
   go_wp2_with fail
   go_roundw
   case rel=>exact ⟨i+1,by have:=HLT.out;omega,by go_num,HB6⟩
   case measure=>have:=HLT.out;simp [intOf];omega
  ·obtain rfl:i=l.length:=by omega
   go_wp2_with fail
   go_ret
   exact ⟨rfl,HB.out⟩
end Go.Proofs.Ytklknkfoafdgpaa.LiveEqS60
