import Derived.Test.YtklknkfoafdgpaaLiveEqK
namespace Go.Proofs.Ytklknkfoafdgpaa.LiveEqB
set_option maxHeartbeats 8000000
set_option maxRecDepth 100000
open RowKit YtklknkfoafdgpaaW.PrintWords YtklknkfoafdgpaaW.PrintLast YtklknkfoafdgpaaW.PrintMore
open PLiveKnown LiveT LiveB LiveSet LiveAhead LiveEnd LiveSettled LiveEqK
set_option linter.unusedVariables false
set_option linter.unusedSimpArgs false
def r33_6_T:Bool×List (List Nat×List Nat):=(true,[([],[]),([],[]),([0,1],[0,1]),([2],[2]),([3],[3]),([],[]),([],[]),([5,6],[5,6]),([7],[7]),([8],[8]),([4,9],[4,9]),([10],[10]),([11],[11]),([11],[11]),([12,13,11],[11,12,13]),([14,11],[11,14]),([15,11],[11,15]),([16,11],[11,16]),([11],[11]),([11],[11]),([18,19,11],[11,18,19]),([20,11],[11,20]),([21,11],[11,21]),([22,11],[11,22]),([17,23,11],[11,17,23]),([11,24],[11,24]),([25,11],[25]),([26],[26]),([26],[26]),([27,28,26],[26,27,28]),([29,26],[26,29]),([30,26],[26,30]),([26],[26]),([26],[26]),([32,33,26],[26,32,33]),([34,26],[26,34]),([35,26],[26,35]),([31,36,26,26],[26,31,36]),([37,26],[26,37]),([26,38],[26,38])])
def r33_6_B:List Nat:=[0,0,3,7,15,0,0,96,224,480,1023,2047,4095,4095,16383,32767,65535,131071,4095,4095,790527,1839103,3936255,8130559,16777215,33554431,67108863,134217727,134217727,536870911,1073741823,2147483647,134217727,134217727,13019119615,30198988799,64558727167,137438953471,274877906943,549755813887]
theorem r33_6_tab:rtab .any (opsOf Try.f33 6)=r33_6_T:=by kernel_rfl
theorem r33_6_bits:waitsOk r33_6_T.2 r33_6_B=true:=by kernel_rfl
def r33_11_T:Bool×List (List Nat×List Nat):=(true,[([],[]),([],[]),([0,1],[0,1]),([2],[2]),([3],[3]),([],[]),([4,5],[4,5]),([6],[6]),([],[]),([],[]),([8,9],[8,9]),([10],[10]),([11],[11]),([],[]),([12,13],[12,13]),([14],[14]),([7,15],[7,15])])
def r33_11_B:List Nat:=[0,0,3,7,15,0,63,127,0,0,768,1792,3840,0,16128,32512,65535]
theorem r33_11_tab:rtab .any (opsOf Try.f33 11)=r33_11_T:=by kernel_rfl
theorem r33_11_bits:waitsOk r33_11_T.2 r33_11_B=true:=by kernel_rfl
theorem like33_calls (bs:List S43) (A B:Option Addr) (c d:Nat) (w:World) (h:Kd.C k43 w A bs.length bs) (h1:Kd.C k43 w B bs.length bs) :
  Calls Try.prog 33 #[.slice A bs.length c,.slice B bs.length d] w fun e w'=>e= .returned (.bool true)∧Below w.heap.size w w':=by
 have H0:=ak h;have H1:=ak h1;have hlm:bs.length≤9223372036854775807:=Kd.C_max h;clear h h1
 go_enter Try.func33,Try.ntmps33
 go_wp2_with fail
 go_loopw [5] (fun v5 wi=>∃ i:Nat,i≤bs.length∧v5= .int .i64 i∧Aside0 (Below w.heap.size w wi)) (fun v5 _=>bs.length-(intOf v5).toNat)
 case atStart=>exact ⟨0,by omega,rfl,⟨Below.refl _ w⟩⟩
 case round =>
  obtain ⟨i,hi,rfl,HB⟩:=hrel
  by_cases hlt:i<bs.length
  ·obtain ⟨ad,A1,c1,A2,c2,e1,p0,p1,p2,l1,hg1,l2,hg2⟩:=rd_block H0.out HB.out i hlt;obtain ⟨ae,B1,d1,B2,d2,e2,q0,q1,q2,k1,hk1,k2,hk2⟩:=rd_block H1.out HB.out i hlt;subst e1 e2;generalize rd_T43 bs i=X at *;have hli:(i:Int)<bs.length:=by omega
   have hxm:X.f2.length≤9223372036854775807:=Kd.C_max hg2;have HLT:=ak hlt;have K1:=ak hg1;have K2:=ak hg2;have K3:=ak hk1;have K4:=ak hk2;have P2:=ak p2;have Q2:=ak q2;have HTD:=ak (below_drew1 HB.out);have HBD:Aside0 (Below wr.heap.size wr wr.drew):=⟨below_drew1 (Below.refl _ wr)⟩
   have Z0:Aside0 (wr.drew.cell? (ad.add (i*3))=some (.int .i64 X.f0)):=⟨p0⟩
   have Z1:Aside0 (wr.drew.cell? ⟨(ad.add (i*3)).block,(ad.add (i*3)).off+1,none⟩=some (.slice A1 X.f1.length c1)):=⟨p1⟩
   have Z2:Aside0 (wr.drew.cell? ⟨(ad.add (i*3)).block,(ad.add (i*3)).off+2,none⟩=some (.slice A2 X.f2.length c2)):=⟨p2⟩
   have Z3:Aside0 (wr.drew.cell? (ae.add (i*3))=some (.int .i64 X.f0)):=⟨q0⟩
   have Z4:Aside0 (wr.drew.cell? ⟨(ae.add (i*3)).block,(ae.add (i*3)).off+1,none⟩=some (.slice B1 X.f1.length d1)):=⟨q1⟩
   have Z5:Aside0 (wr.drew.cell? ⟨(ae.add (i*3)).block,(ae.add (i*3)).off+2,none⟩=some (.slice B2 X.f2.length d2)):=⟨q2⟩
   clear hg1 hg2 hk1 hk2 l1 l2 k1 k2 hlt hi p0 p1 p2 q0 q1 q2
   go_wp2_with fail
   refine start_ (n:=40) (S:=fun w'=>w'.cell? (ad.add (i*3))=some (.int .i64 X.f0)∧w'.cell? ⟨(ad.add (i*3)).block,(ad.add (i*3)).off+1,none⟩=some (.slice A1 X.f1.length c1)∧w'.cell? ⟨(ad.add (i*3)).block,(ad.add (i*3)).off+2,none⟩=some (.slice A2 X.f2.length c2)∧w'.cell? (ae.add (i*3))=some (.int .i64 X.f0)∧w'.cell? ⟨(ae.add (i*3)).block,(ae.add (i*3)).off+1,none⟩=some (.slice B1 X.f1.length d1)∧w'.cell? ⟨(ae.add (i*3)).block,(ae.add (i*3)).off+2,none⟩=some (.slice B2 X.f2.length d2)) (ds:=[]) (bz 40 0) (by kernel_rfl) rfl rfl ⟨Z0.out,Z1.out,Z2.out,Z3.out,Z4.out,Z5.out⟩ (fun hHeld=>?_)
   refine with_tabW r33_6_tab r33_6_bits (fun HT_ HW_=>?_);generalize World.drew wr=W2 at HTD HBD Z0 Z1 Z2 Z3 Z4 Z5 hHeld ⊢;refine pu 0 18 40 1 ?_;refine pu 1 19 40 2 ?_;refine pu 2 20 40 3 ?_;refine pu 3 21 40 4 ?_;refine tk 4 22 40 5 ?_;refine pu 5 23 40 6 ?_;refine pu 6 24 40 7 ?_;refine pu 7 25 40 8 ?_;refine pu 8 26 40 9 ?_;refine tk 9 27 40 10 ?_;refine pu 10 28 40 11 ?_;refine pu 11 29 40 12 ?_;refine pu 12 30 40 13 ?_;refine pu 13 31 40 14 ?_;refine pu 14 32 40 15 ?_;refine pu 15 33 40 16 ?_;refine tk 16 34 40 17 ?_;refine pu 17 35 40 18 ?_;refine pu 18 36 40 19 ?_
   refine pu 19 37 40 20 ?_;refine pu 20 38 40 21 ?_;refine pu 21 39 40 22 ?_;refine tk 22 40 40 23 ?_;refine pu 23 41 40 24 ?_;refine pu 24 42 40 25 ?_;refine pu 25 43 40 26 ?_;refine pu 26 44 40 27 ?_;refine pu 27 45 40 28 ?_;refine pu 28 46 40 29 ?_;refine pu 29 47 40 30 ?_;refine pu 30 48 40 31 ?_;refine tk 31 49 40 32 ?_;refine pu 32 50 40 33 ?_;refine pu 33 51 40 34 ?_;refine pu 34 52 40 35 ?_;refine pu 35 53 40 36 ?_;refine tk 36 54 40 37 ?_;refine one_ (i:=37) (N:=some 55) (bz 40 38) rfl rfl (one_of HT_.out (by kernel_rfl)) (by decide) (fun K hK=>?_)
   refine goes_ Try.func55 (by kernel_rfl) rfl #[.slice A1 X.f1.length c1,.slice B1 X.f1.length d1] (by rfl) rfl rfl (by (try simp only [List.map_toArray,List.map_cons,List.map_nil]);first |done |rfl) ?_;refine (ins55_calls X.f1 A1 B1 c1 d1 W2 (Kd.C_below K1.out HTD.out) (Kd.C_below K3.out HTD.out)).mono ?_;rintro e w6 ⟨rfl,hb6⟩;refine ⟨_,rfl,?_⟩;have HB6:=ak (below_step HTD.out hb6);have HQ6:=ak (below_step HBD.out hb6)
   refine hK.out _ _ ⟨pw_cell_below hb6 Z0.out,pw_cell_below hb6 Z1.out,pw_cell_below hb6 Z2.out,pw_cell_below hb6 Z3.out,pw_cell_below hb6 Z4.out,pw_cell_below hb6 Z5.out⟩ (fun hHeld=>?_);clear hK K;refine norm_ (a':=?_) ?_ ?_;rotate_left
   ·show Act.put _ (some 55) _=_
    simp only [Act.put,sA,sB,sC,i64_w,i32_w];rfl
   clear hb6;refine pu 38 56 40 39 ?_;refine pu 39 57 40 40 ?_;refine done_ (done_of HT_.out (by kernel_rfl)) ?_;clear Z0 Z1 Z2 Z3 Z4 Z5
   go_wp2_with fail
   go_loopw [6] (fun v6 wi=>∃ k:Nat,k≤X.f2.length∧v6= .int .i64 k∧Aside0 (Below w6.heap.size w6 wi)) (fun v6 _=>X.f2.length-(intOf v6).toNat)
   case atStart=>exact ⟨0,by omega,rfl,⟨Below.refl _ w6⟩⟩
   case round =>
    obtain ⟨k,hk,rfl,HBk⟩:=hrel;have HT:=ak (below_step HB6.out HBk.out);have p2:=pw_cell_below (below_step HQ6.out HBk.out) P2.out
    by_cases hkt:k<X.f2.length
    ·have q2:=pw_cell_below (below_step HQ6.out HBk.out) Q2.out;have hki:(k:Int)<X.f2.length:=by omega
     have HKT:=ak hkt;have HBD:=ak (below_drew1 HBk.out);obtain ⟨a,ea,m0⟩:=Kd.at_int K2.out (k:Int) (by omega) (by omega);obtain ⟨b,eb,m1⟩:=Kd.at_int K4.out (k:Int) (by omega) (by omega);subst ea eb;rw [Int.toNat_natCast] at m0 m1;replace m0:=pw_cell_below HT.out m0;replace m1:=pw_cell_below HT.out m1;have Z0:Aside0 (wr.drew.cell? ⟨(ad.add (i*3)).block,(ad.add (i*3)).off+2,none⟩=some (.slice (some a) X.f2.length c2)):=⟨p2⟩
     have Z1:Aside0 (wr.drew.cell? ⟨(ae.add (i*3)).block,(ae.add (i*3)).off+2,none⟩=some (.slice (some b) X.f2.length d2)):=⟨q2⟩
     have Z2:Aside0 (wr.drew.cell? (a.add k)=some (.int .i64 (rd X.f2 k))):=⟨m0⟩
     have Z3:Aside0 (wr.drew.cell? (b.add k)=some (.int .i64 (rd X.f2 k))):=⟨m1⟩
     clear hkt hk
     go_wp2_with fail
     clear p2 q2 m0 m1;refine start_ (n:=17) (S:=fun w'=>w'.cell? ⟨(ad.add (i*3)).block,(ad.add (i*3)).off+2,none⟩=some (.slice (some a) X.f2.length c2)∧w'.cell? ⟨(ae.add (i*3)).block,(ae.add (i*3)).off+2,none⟩=some (.slice (some b) X.f2.length d2)∧w'.cell? (a.add k)=some (.int .i64 (rd X.f2 k))∧w'.cell? (b.add k)=some (.int .i64 (rd X.f2 k))) (ds:=[]) (bz 17 0) (by kernel_rfl) rfl rfl ⟨Z0.out,Z1.out,Z2.out,Z3.out⟩ (fun hHeld=>?_);refine with_tabW r33_11_tab r33_11_bits (fun HT_ HW_=>?_);generalize World.drew wr=W2 at HBD Z0 Z1 Z2 Z3 hHeld ⊢
     refine pu 0 68 17 1 ?_;refine pu 1 69 17 2 ?_;refine pu 2 70 17 3 ?_;refine pu 3 71 17 4 ?_;refine tk 4 72 17 5 ?_;refine pu 5 73 17 6 ?_;refine pu 6 74 17 7 ?_;refine tk 7 75 17 8 ?_;refine pu 8 76 17 9 ?_;refine pu 9 77 17 10 ?_;refine pu 10 78 17 11 ?_;refine pu 11 79 17 12 ?_;refine tk 12 80 17 13 ?_;refine pu 13 81 17 14 ?_;refine pu 14 82 17 15 ?_;refine tk 15 83 17 16 ?_;refine pu 16 84 17 17 ?_;refine done_ (done_of HT_.out (by kernel_rfl)) ?_
     go_wp2_with fail
     go_roundw
     case rel=>exact ⟨k+1,by have:=HKT.out;omega,by go_num,HBD⟩
     case measure=>have:=HKT.out;simp [intOf];omega
    ·obtain rfl:k=X.f2.length:=by omega
     go_wp2_with fail
     go_roundw
     case rel=>exact ⟨i+1,by have:=HLT.out;omega,by go_num,HT⟩
     case measure=>have:=HLT.out;simp [intOf];omega
  ·obtain rfl:i=bs.length:=by omega
   go_wp2_with fail
   go_ret
   exact ⟨rfl,HB.out⟩
end Go.Proofs.Ytklknkfoafdgpaa.LiveEqB
