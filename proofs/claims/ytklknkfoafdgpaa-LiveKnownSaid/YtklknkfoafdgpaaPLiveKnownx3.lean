import Derived.Test.YtklknkfoafdgpaaPLiveKnownx1
import Derived.Test.YtklknkfoafdgpaaPLiveKnownx2
namespace Go.Proofs.Ytklknkfoafdgpaa.PLiveKnown
set_option maxHeartbeats 8000000
set_option maxRecDepth 100000
open RowKit YtklknkfoafdgpaaW.PrintWords YtklknkfoafdgpaaW.PrintLast YtklknkfoafdgpaaW.PrintMore
attribute [local go_sem] max2_int min2_int max_two min_two max_three min_three max_four min_four
set_option linter.unusedVariables false
set_option linter.unusedSimpArgs false
def zSameShapes.l0:Nat→List (S78)→List (S78)→Int→Option (Bool)
 |0,_,_,_=>none
 |k+1,x0,x1,x5=>if x5<(x0.length:Int) then (if 0≤x5 then (if x5<(x1.length:Int) then (if ((rd_T78 x0 x5).f0)=((rd_T78 x1 x5).f0) then (if ((rd_T78 x0 x5).f1)=((rd_T78 x1 x5).f1) then ((zSameOpnds.f k ((rd_T78 x0 x5).f2) ((rd_T78 x1 x5).f2)).bind fun t118=>(if t118=true then (zSameShapes.l0 k x0 x1 (wrap64 (x5+1))) else (some false))) else (some false)) else (some false)) else (none)) else (none)) else (some true)
def zSameShapes.f (k:Nat) (l0:List (S78)) (l1:List (S78)):Option (Bool):=if (l0.length:Int)=(l1.length:Int) then (zSameShapes.l0 k l0 l1 0) else (some false)
def zSameShapes.T6:Bool×List (List Nat×List Nat):=(true,[([],[]),([],[]),([0,1],[0,1]),([2],[2]),([3],[3]),([],[]),([],[]),([5,6],[5,6]),([7],[7]),([8],[8]),([4,9],[4,9]),([10],[10]),([11],[11]),([11],[11]),([12,13,11],[11,12,13]),([14,11],[11,14]),([15,11],[11,15]),([11],[11]),([11],[11]),([17,18,11],[11,17,18]),([19,11],[11,19]),([20,11],[11,20]),([16,21,11],[11,16,21]),([11,22],[11,22]),([23,11],[23]),([24],[24]),([24],[24]),([25,26,24],[24,25,26]),([27,24],[24,27]),([28,24],[24,28]),([24],[24]),([24],[24]),([30,31,24],[24,30,31]),([32,24],[24,32]),([33,24],[24,33]),([29,34,24,24],[24,29,34]),([35,24],[24,35]),([24,36],[24,36])])
def zSameShapes.B6:List Nat:=[0,0,3,7,15,0,0,96,224,480,1023,2047,4095,4095,16383,32767,65535,4095,4095,397311,921599,1970175,4194303,8388607,16777215,33554431,33554431,134217727,268435455,536870911,33554431,33554431,3254779903,7549747199,16139681791,34359738367,68719476735,137438953471]
theorem zSameShapes.tab6:rtab .any (opsOf Try.f60 6)=zSameShapes.T6:=by kernel_rfl
theorem zSameShapes.bits6:waitsOk zSameShapes.T6.2 zSameShapes.B6=true:=by kernel_rfl
theorem zSameShapes.calls (k:Nat) (A0:Option Addr) (c0:Nat) (l0:List (S78)) (A1:Option Addr) (c1:Nat) (l1:List (S78)) (r:Bool) (w:World) (hr0:Kd.C k78 w A0 l0.length l0) (hc0:l0.length≤c0) (hr1:Kd.C k78 w A1 l1.length l1) (hc1:l1.length≤c1) (h:zSameShapes.f k l0 l1=some r) :
  Calls Try.prog 60 #[.slice A0 l0.length c0,.slice A1 l1.length c1] w fun e w'=>e= .returned (.bool r)∧Below w.heap.size w w':=by
 have HR0:=ak hr0;have HC0:=ak hc0;clear hr0 hc0;have HR1:=ak hr1;have HC1:=ak hc1;clear hr1 hc1;have HB:=ak (Below.refl w.heap.size w);have H:(if (l0.length:Int)=(l1.length:Int) then (zSameShapes.l0 k l0 l1 0) else (some false))=some r:=h;clear h
 by_cases c3:(l0.length:Int)=(l1.length:Int)
 ·rw [if_pos c3] at H;have c3b0:((l0.length:Int)==(l1.length:Int))=true:=beq_iff_eq.mpr c3;have c3b1:((l0.length:Int) != (l1.length:Int))=false:=bne_eq_false_iff_eq.mpr c3;have c3b2:(l0.length==l1.length)=true:=by first |simpa using c3 |(simp at c3 ⊢; omega)
  clear c3;have H':=ak H;clear H
  go_enter Try.func60,Try.ntmps60
  go_wp2
  go_loopg [5] k (fun kq v5 w'=>∃ (x5_1:Int),v5= .int .i64 x5_1∧Aside0 (zSameShapes.l0 kq l0 l1 x5_1=some r)∧Aside0 (kq≤k)∧Aside0 (Below w.heap.size w w'))
  case atStart=>exact ⟨(0),qa,H',⟨Nat.le_refl _⟩,⟨by repeat (first |(with_reducible first |exact HB.out |apply below_alloc |apply pw_below_drewN |apply below_drew1) |exact HB.out)⟩⟩
  case round =>
   clear H'
   try clear c1
   try clear p2
   try clear c3
   try clear c3b0
   try clear c3b1
   try clear c3b2
   obtain ⟨x5_1,rfl,HA,HK1,HB⟩:=hrel;cases gk with
   |zero=>exact absurd HA.out (by simp [zSameShapes.l0])
   |succ k1 =>
    have H:=HA.out;clear HA;simp only [zSameShapes.l0] at H
    by_cases c4:x5_1<(l0.length:Int)
    ·rw [if_pos c4] at H;have c4b0:decide (x5_1<(l0.length:Int))=true:=decide_eq_true c4;clear c4
     by_cases c5:0≤x5_1
     ·rw [if_pos c5] at H;have c5b0:decide (0≤x5_1)=true:=decide_eq_true c5;clear c5
      by_cases c6:x5_1<(l1.length:Int)
      ·rw [if_pos c6] at H;have c6b0:decide (x5_1<(l1.length:Int))=true:=decide_eq_true c6;clear c6
       by_cases c7:((rd_T78 l0 x5_1).f0)=((rd_T78 l1 x5_1).f0)
       ·rw [if_pos c7] at H;have c7b0:(((rd_T78 l0 x5_1).f0)==((rd_T78 l1 x5_1).f0))=true:=beq_iff_eq.mpr c7;have c7b1:(((rd_T78 l0 x5_1).f0) != ((rd_T78 l1 x5_1).f0))=false:=bne_eq_false_iff_eq.mpr c7;clear c7
        by_cases c8:((rd_T78 l0 x5_1).f1)=((rd_T78 l1 x5_1).f1)
        ·rw [if_pos c8] at H;have c8b0:(((rd_T78 l0 x5_1).f1)==((rd_T78 l1 x5_1).f1))=true:=beq_iff_eq.mpr c8;have c8b1:(((rd_T78 l0 x5_1).f1) != ((rd_T78 l1 x5_1).f1))=false:=bne_eq_false_iff_eq.mpr c8;clear c8;replace H:=Option.bind_eq_some_iff.mp H;obtain ⟨t118,A90,H⟩:=H;replace H:(if t118=true then (zSameShapes.l0 k1 l0 l1 (wrap64 (x5_1+1))) else (some false))=some r:=H;have A9:=ak A90;clear A90
         by_cases c10:t118=true
         ·subst c10;have H1:(zSameShapes.l0 k1 l0 l1 (wrap64 (x5_1+1)))=some r:=by rw [if_pos rfl] at H;exact H
          clear H;have H:=H1;clear H1;have H':=ak H;clear H
          try go_wp2
          have n0_:=ak (below_drew1 HB.out);clear HB;have HB:=n0_;clear n0_;have p112:0≤(x5_1:Int):=dt;have q112:x5_1<(l0.length:Int):=dt;obtain ⟨ad112,A112_2,c112_2,e112,hx112_0,hx112_1,hx112_2,hl112_2,hi112_2⟩:=at_T78 HR0.out x5_1 p112 q112;have hw112_2:=hx112_2;have hw112_1:=hx112_1;have hw112_0:=hx112_0;cases e112;replace hx112_0:=(qd HB hx112_0 :)
          replace hx112_1:=(qd HB hx112_1 :)
          replace hx112_2:=(qd HB hx112_2 :)
          have HR112_2:=ak hi112_2;have HC112_2:=ak hl112_2;clear hi112_2 hl112_2;replace p112:=eq_true p112;replace q112:=eq_true q112;have p113:0≤(x5_1:Int):=dt;have q113:x5_1<(l1.length:Int):=dt;obtain ⟨ad113,A113_2,c113_2,e113,hx113_0,hx113_1,hx113_2,hl113_2,hi113_2⟩:=at_T78 HR1.out x5_1 p113 q113;have hw113_2:=hx113_2;have hw113_1:=hx113_1;have hw113_0:=hx113_0;cases e113;replace hx113_0:=(qd HB hx113_0 :)
          replace hx113_1:=(qd HB hx113_1 :)
          replace hx113_2:=(qd HB hx113_2 :)
          have HR113_2:=ak hi113_2;have HC113_2:=ak hl113_2;clear hi113_2 hl113_2;replace p113:=eq_true p113;replace q113:=eq_true q113;have p114:0≤(x5_1:Int):=dt;have q114:x5_1<(l0.length:Int):=dt;obtain ⟨ad114,A114_2,c114_2,e114,hx114_0,hx114_1,hx114_2,hl114_2,hi114_2⟩:=at_T78 HR0.out x5_1 p114 q114;have hw114_2:=hx114_2;have hw114_1:=hx114_1;have hw114_0:=hx114_0;obtain rfl:ad112=ad114:=(by injection e114)
          replace hx114_0:=(qd HB hx114_0 :)
          replace hx114_1:=(qd HB hx114_1 :)
          replace hx114_2:=(qd HB hx114_2 :)
          have HR114_2:=ak hi114_2;have HC114_2:=ak hl114_2;clear hi114_2 hl114_2;replace p114:=eq_true p114;replace q114:=eq_true q114;have ea_:=Option.some.inj (hx112_2.symm.trans hx114_2);injection ea_ with ea_ en_ ec_;subst ea_;subst ec_;clear en_;have p115:0≤(x5_1:Int):=dt;have q115:x5_1<(l1.length:Int):=dt;obtain ⟨ad115,A115_2,c115_2,e115,hx115_0,hx115_1,hx115_2,hl115_2,hi115_2⟩:=at_T78 HR1.out x5_1 p115 q115;have hw115_2:=hx115_2;have hw115_1:=hx115_1;have hw115_0:=hx115_0;obtain rfl:ad113=ad115:=(by injection e115)
          replace hx115_0:=(qd HB hx115_0 :)
          replace hx115_1:=(qd HB hx115_1 :)
          replace hx115_2:=(qd HB hx115_2 :)
          have HR115_2:=ak hi115_2;have HC115_2:=ak hl115_2;clear hi115_2 hl115_2;replace p115:=eq_true p115;replace q115:=eq_true q115;have ea_:=Option.some.inj (hx113_2.symm.trans hx115_2);injection ea_ with ea_ en_ ec_;subst ea_;subst ec_;clear en_;have p116:0≤(x5_1:Int):=dt;have q116:x5_1<(l0.length:Int):=dt;obtain ⟨ad116,A116_2,c116_2,e116,hx116_0,hx116_1,hx116_2,hl116_2,hi116_2⟩:=at_T78 HR0.out x5_1 p116 q116;have hw116_2:=hx116_2;have hw116_1:=hx116_1;have hw116_0:=hx116_0;obtain rfl:ad112=ad116:=(by injection e116)
          replace hx116_0:=(qd HB hx116_0 :)
          replace hx116_1:=(qd HB hx116_1 :)
          replace hx116_2:=(qd HB hx116_2 :)
          have HR116_2:=ak hi116_2;have HC116_2:=ak hl116_2;clear hi116_2 hl116_2;replace p116:=eq_true p116;replace q116:=eq_true q116;have ea_:=Option.some.inj (hx112_2.symm.trans hx116_2);injection ea_ with ea_ en_ ec_;subst ea_;subst ec_;clear en_;have p117:0≤(x5_1:Int):=dt;have q117:x5_1<(l1.length:Int):=dt;obtain ⟨ad117,A117_2,c117_2,e117,hx117_0,hx117_1,hx117_2,hl117_2,hi117_2⟩:=at_T78 HR1.out x5_1 p117 q117;have hw117_2:=hx117_2;have hw117_1:=hx117_1;have hw117_0:=hx117_0;obtain rfl:ad113=ad117:=(by injection e117)
          replace hx117_0:=(qd HB hx117_0 :)
          replace hx117_1:=(qd HB hx117_1 :)
          replace hx117_2:=(qd HB hx117_2 :)
          have HR117_2:=ak hi117_2;have HC117_2:=ak hl117_2;clear hi117_2 hl117_2;replace p117:=eq_true p117;replace q117:=eq_true q117;have ea_:=Option.some.inj (hx113_2.symm.trans hx117_2);injection ea_ with ea_ en_ ec_;subst ea_;subst ec_;clear en_
          refine start_ (n:=38) (S:=fun w'=>w'.cell? (ad112.add ((x5_1).toNat*3))=some (.int .i64 ((rd_T78 l0 x5_1).f0))∧w'.cell? ⟨(ad112.add ((x5_1).toNat*3)).block,(ad112.add ((x5_1).toNat*3)).off+1,none⟩=some (.int .i64 ((rd_T78 l0 x5_1).f1))∧w'.cell? ⟨(ad112.add ((x5_1).toNat*3)).block,(ad112.add ((x5_1).toNat*3)).off+2,none⟩=some (.slice A112_2 ((rd_T78 l0 x5_1).f2).length c112_2)∧w'.cell? (ad113.add ((x5_1).toNat*3))=some (.int .i64 ((rd_T78 l1 x5_1).f0))∧w'.cell? ⟨(ad113.add ((x5_1).toNat*3)).block,(ad113.add ((x5_1).toNat*3)).off+1,none⟩=some (.int .i64 ((rd_T78 l1 x5_1).f1))∧w'.cell? ⟨(ad113.add ((x5_1).toNat*3)).block,(ad113.add ((x5_1).toNat*3)).off+2,none⟩=some (.slice A113_2 ((rd_T78 l1 x5_1).f2).length c113_2)∧w'.cell? (ad112.add ((x5_1).toNat*3))=some (.int .i64 ((rd_T78 l0 x5_1).f0))∧w'.cell? ⟨(ad112.add ((x5_1).toNat*3)).block,(ad112.add ((x5_1).toNat*3)).off+1,none⟩=some (.int .i64 ((rd_T78 l0 x5_1).f1))∧w'.cell? ⟨(ad112.add ((x5_1).toNat*3)).block,(ad112.add ((x5_1).toNat*3)).off+2,none⟩=some (.slice A112_2 ((rd_T78 l0 x5_1).f2).length c112_2)∧w'.cell? (ad113.add ((x5_1).toNat*3))=some (.int .i64 ((rd_T78 l1 x5_1).f0))∧w'.cell? ⟨(ad113.add ((x5_1).toNat*3)).block,(ad113.add ((x5_1).toNat*3)).off+1,none⟩=some (.int .i64 ((rd_T78 l1 x5_1).f1))∧w'.cell? ⟨(ad113.add ((x5_1).toNat*3)).block,(ad113.add ((x5_1).toNat*3)).off+2,none⟩=some (.slice A113_2 ((rd_T78 l1 x5_1).f2).length c113_2)∧w'.cell? (ad112.add ((x5_1).toNat*3))=some (.int .i64 ((rd_T78 l0 x5_1).f0))∧w'.cell? ⟨(ad112.add ((x5_1).toNat*3)).block,(ad112.add ((x5_1).toNat*3)).off+1,none⟩=some (.int .i64 ((rd_T78 l0 x5_1).f1))∧w'.cell? ⟨(ad112.add ((x5_1).toNat*3)).block,(ad112.add ((x5_1).toNat*3)).off+2,none⟩=some (.slice A112_2 ((rd_T78 l0 x5_1).f2).length c112_2)∧w'.cell? (ad113.add ((x5_1).toNat*3))=some (.int .i64 ((rd_T78 l1 x5_1).f0))∧w'.cell? ⟨(ad113.add ((x5_1).toNat*3)).block,(ad113.add ((x5_1).toNat*3)).off+1,none⟩=some (.int .i64 ((rd_T78 l1 x5_1).f1))∧w'.cell? ⟨(ad113.add ((x5_1).toNat*3)).block,(ad113.add ((x5_1).toNat*3)).off+2,none⟩=some (.slice A113_2 ((rd_T78 l1 x5_1).f2).length c113_2)) (ds:=[]) (bz 38 0) (by kernel_rfl) rfl rfl ⟨((qd HB hw112_0 :)),((qd HB hw112_1 :)),((qd HB hw112_2 :)),((qd HB hw113_0 :)),((qd HB hw113_1 :)),((qd HB hw113_2 :)),((qd HB hw114_0 :)),((qd HB hw114_1 :)),((qd HB hw114_2 :)),((qd HB hw115_0 :)),((qd HB hw115_1 :)),((qd HB hw115_2 :)),((qd HB hw116_0 :)),((qd HB hw116_1 :)),((qd HB hw116_2 :)),((qd HB hw117_0 :)),((qd HB hw117_1 :)),((qd HB hw117_2 :))⟩ (fun hHeld=>?_);refine with_tabW zSameShapes.tab6 zSameShapes.bits6 (fun HT_ HW_=>?_)
          generalize wr.drew=w11 at HB HR112_2 HR113_2 HR114_2 HR115_2 HR116_2 HR117_2 hx112_0 hx112_1 hx112_2 hx113_0 hx113_1 hx113_2 hx114_0 hx114_1 hx114_2 hx115_0 hx115_1 hx115_2 hx116_0 hx116_1 hx116_2 hx117_0 hx117_1 hx117_2 hHeld ⊢;refine pu 0 17 38 1 ?_;refine pu 1 18 38 2 ?_;refine pu 2 19 38 3 ?_;refine pu 3 20 38 4 ?_;refine pq 5 22 38 47 ?_;refine pq 6 23 38 111 ?_;refine pq 7 24 38 239 ?_;refine pq 8 25 38 495 ?_;refine tk 4 21 38 9 ?_;refine tk 9 26 38 10 ?_;refine pu 10 27 38 11 ?_;refine pu 11 28 38 12 ?_;refine pu 12 29 38 13 ?_;refine pu 13 30 38 14 ?_
          refine pu 14 31 38 15 ?_;refine pu 15 32 38 16 ?_;refine pq 17 34 38 196607 ?_;refine pq 18 35 38 458751 ?_;refine pq 19 36 38 983039 ?_;refine pq 20 37 38 2031615 ?_;refine tk 16 33 38 21 ?_;refine tk 21 38 38 22 ?_;refine pu 22 39 38 23 ?_;refine pu 23 40 38 24 ?_;refine pu 24 41 38 25 ?_;refine pu 25 42 38 26 ?_;refine pu 26 43 38 27 ?_;refine pu 27 44 38 28 ?_;refine pu 28 45 38 29 ?_;refine pq 30 47 38 1610612735 ?_;refine pq 31 48 38 3758096383 ?_;refine pq 32 49 38 8053063679 ?_;refine pq 33 50 38 16642998271 ?_;refine tk 29 46 38 34 ?_;refine tk 34 51 38 35 ?_
          refine one_ (i:=35) (N:=some 52) (bz 38 36) rfl rfl (one_of HT_.out (by kernel_rfl)) (by decide) (fun K hK=>?_);refine goes_ Try.func59 (by kernel_rfl) rfl #[.slice A112_2 ((rd_T78 l0 x5_1).f2).length c112_2,.slice A113_2 ((rd_T78 l1 x5_1).f2).length c113_2] (by rfl) rfl rfl qc ?_
          with_reducible refine (zSameOpnds.calls k1 _ _ ((rd_T78 l0 x5_1).f2) _ _ ((rd_T78 l1 x5_1).f2) true _ ?side1 ?side2 ?side3 ?side4 A9.out).mono ?_
          (case side1=>exact qh (Kd.C_below HR116_2.out HB.out))
          (case side2=>exact HC116_2.out)
          (case side3=>exact qh (Kd.C_below HR117_2.out HB.out))
          (case side4=>exact HC117_2.out)
          rintro e w' ⟨rfl,⟨nd,rfl⟩⟩;refine ⟨_,rfl,?_⟩;refine hK.out _ _ ⟨((qd HB hw112_0 :)),((qd HB hw112_1 :)),((qd HB hw112_2 :)),((qd HB hw113_0 :)),((qd HB hw113_1 :)),((qd HB hw113_2 :)),((qd HB hw114_0 :)),((qd HB hw114_1 :)),((qd HB hw114_2 :)),((qd HB hw115_0 :)),((qd HB hw115_1 :)),((qd HB hw115_2 :)),((qd HB hw116_0 :)),((qd HB hw116_1 :)),((qd HB hw116_2 :)),((qd HB hw117_0 :)),((qd HB hw117_1 :)),((qd HB hw117_2 :))⟩ (fun hHeld=>?_);clear hK K;refine norm_ (a':=?_) ?_ ?_;rotate_left
          ·show Act.put _ (some 52) _=_
           simp only [Act.put,sA,sB,sC,i64_w,i32_w];rfl
          refine pu 36 53 38 37 ?_;refine pu 37 54 38 38 ?_;refine done_ (done_of HT_.out (by kernel_rfl)) ?_
          try go_wp2
          go_roundg k1
          case measure=>have:=HK1.out;omega
          case rel=>exact ⟨(wrap64 (x5_1+1)),qa,H',⟨by have:=HK1.out;omega⟩,⟨by repeat (first |(with_reducible first |exact HB.out |apply below_alloc |apply pw_below_drewN |apply below_drew1) |exact HB.out)⟩⟩
         ·replace c10:=Bool.eq_false_iff.mpr c10;subst c10;have H1:(some false)=some r:=by rw [if_neg (show ¬ (false=true) by decide)] at H;exact H
          clear H;have H:=H1;clear H1;obtain rfl:=Option.some.inj H
          try go_wp2
          have n0_:=ak (below_drew1 HB.out);clear HB;have HB:=n0_;clear n0_;have p112:0≤(x5_1:Int):=dt;have q112:x5_1<(l0.length:Int):=dt;obtain ⟨ad112,A112_2,c112_2,e112,hx112_0,hx112_1,hx112_2,hl112_2,hi112_2⟩:=at_T78 HR0.out x5_1 p112 q112;have hw112_2:=hx112_2;have hw112_1:=hx112_1;have hw112_0:=hx112_0;cases e112;replace hx112_0:=(qd HB hx112_0 :)
          replace hx112_1:=(qd HB hx112_1 :)
          replace hx112_2:=(qd HB hx112_2 :)
          have HR112_2:=ak hi112_2;have HC112_2:=ak hl112_2;clear hi112_2 hl112_2;replace p112:=eq_true p112;replace q112:=eq_true q112;have p113:0≤(x5_1:Int):=dt;have q113:x5_1<(l1.length:Int):=dt;obtain ⟨ad113,A113_2,c113_2,e113,hx113_0,hx113_1,hx113_2,hl113_2,hi113_2⟩:=at_T78 HR1.out x5_1 p113 q113;have hw113_2:=hx113_2;have hw113_1:=hx113_1;have hw113_0:=hx113_0;cases e113;replace hx113_0:=(qd HB hx113_0 :)
          replace hx113_1:=(qd HB hx113_1 :)
          replace hx113_2:=(qd HB hx113_2 :)
          have HR113_2:=ak hi113_2;have HC113_2:=ak hl113_2;clear hi113_2 hl113_2;replace p113:=eq_true p113;replace q113:=eq_true q113;have p114:0≤(x5_1:Int):=dt;have q114:x5_1<(l0.length:Int):=dt;obtain ⟨ad114,A114_2,c114_2,e114,hx114_0,hx114_1,hx114_2,hl114_2,hi114_2⟩:=at_T78 HR0.out x5_1 p114 q114;have hw114_2:=hx114_2;have hw114_1:=hx114_1;have hw114_0:=hx114_0;obtain rfl:ad112=ad114:=(by injection e114)
          replace hx114_0:=(qd HB hx114_0 :)
          replace hx114_1:=(qd HB hx114_1 :)
          replace hx114_2:=(qd HB hx114_2 :)
          have HR114_2:=ak hi114_2;have HC114_2:=ak hl114_2;clear hi114_2 hl114_2;replace p114:=eq_true p114;replace q114:=eq_true q114;have ea_:=Option.some.inj (hx112_2.symm.trans hx114_2);injection ea_ with ea_ en_ ec_;subst ea_;subst ec_;clear en_;have p115:0≤(x5_1:Int):=dt;have q115:x5_1<(l1.length:Int):=dt;obtain ⟨ad115,A115_2,c115_2,e115,hx115_0,hx115_1,hx115_2,hl115_2,hi115_2⟩:=at_T78 HR1.out x5_1 p115 q115;have hw115_2:=hx115_2;have hw115_1:=hx115_1;have hw115_0:=hx115_0;obtain rfl:ad113=ad115:=(by injection e115)
          replace hx115_0:=(qd HB hx115_0 :)
          replace hx115_1:=(qd HB hx115_1 :)
          replace hx115_2:=(qd HB hx115_2 :)
          have HR115_2:=ak hi115_2;have HC115_2:=ak hl115_2;clear hi115_2 hl115_2;replace p115:=eq_true p115;replace q115:=eq_true q115;have ea_:=Option.some.inj (hx113_2.symm.trans hx115_2);injection ea_ with ea_ en_ ec_;subst ea_;subst ec_;clear en_;have p116:0≤(x5_1:Int):=dt;have q116:x5_1<(l0.length:Int):=dt;obtain ⟨ad116,A116_2,c116_2,e116,hx116_0,hx116_1,hx116_2,hl116_2,hi116_2⟩:=at_T78 HR0.out x5_1 p116 q116;have hw116_2:=hx116_2;have hw116_1:=hx116_1;have hw116_0:=hx116_0;obtain rfl:ad112=ad116:=(by injection e116)
          replace hx116_0:=(qd HB hx116_0 :)
          replace hx116_1:=(qd HB hx116_1 :)
          replace hx116_2:=(qd HB hx116_2 :)
          have HR116_2:=ak hi116_2;have HC116_2:=ak hl116_2;clear hi116_2 hl116_2;replace p116:=eq_true p116;replace q116:=eq_true q116;have ea_:=Option.some.inj (hx112_2.symm.trans hx116_2);injection ea_ with ea_ en_ ec_;subst ea_;subst ec_;clear en_;have p117:0≤(x5_1:Int):=dt;have q117:x5_1<(l1.length:Int):=dt;obtain ⟨ad117,A117_2,c117_2,e117,hx117_0,hx117_1,hx117_2,hl117_2,hi117_2⟩:=at_T78 HR1.out x5_1 p117 q117;have hw117_2:=hx117_2;have hw117_1:=hx117_1;have hw117_0:=hx117_0;obtain rfl:ad113=ad117:=(by injection e117)
          replace hx117_0:=(qd HB hx117_0 :)
          replace hx117_1:=(qd HB hx117_1 :)
          replace hx117_2:=(qd HB hx117_2 :)
          have HR117_2:=ak hi117_2;have HC117_2:=ak hl117_2;clear hi117_2 hl117_2;replace p117:=eq_true p117;replace q117:=eq_true q117;have ea_:=Option.some.inj (hx113_2.symm.trans hx117_2);injection ea_ with ea_ en_ ec_;subst ea_;subst ec_;clear en_
          refine start_ (n:=38) (S:=fun w'=>w'.cell? (ad112.add ((x5_1).toNat*3))=some (.int .i64 ((rd_T78 l0 x5_1).f0))∧w'.cell? ⟨(ad112.add ((x5_1).toNat*3)).block,(ad112.add ((x5_1).toNat*3)).off+1,none⟩=some (.int .i64 ((rd_T78 l0 x5_1).f1))∧w'.cell? ⟨(ad112.add ((x5_1).toNat*3)).block,(ad112.add ((x5_1).toNat*3)).off+2,none⟩=some (.slice A112_2 ((rd_T78 l0 x5_1).f2).length c112_2)∧w'.cell? (ad113.add ((x5_1).toNat*3))=some (.int .i64 ((rd_T78 l1 x5_1).f0))∧w'.cell? ⟨(ad113.add ((x5_1).toNat*3)).block,(ad113.add ((x5_1).toNat*3)).off+1,none⟩=some (.int .i64 ((rd_T78 l1 x5_1).f1))∧w'.cell? ⟨(ad113.add ((x5_1).toNat*3)).block,(ad113.add ((x5_1).toNat*3)).off+2,none⟩=some (.slice A113_2 ((rd_T78 l1 x5_1).f2).length c113_2)∧w'.cell? (ad112.add ((x5_1).toNat*3))=some (.int .i64 ((rd_T78 l0 x5_1).f0))∧w'.cell? ⟨(ad112.add ((x5_1).toNat*3)).block,(ad112.add ((x5_1).toNat*3)).off+1,none⟩=some (.int .i64 ((rd_T78 l0 x5_1).f1))∧w'.cell? ⟨(ad112.add ((x5_1).toNat*3)).block,(ad112.add ((x5_1).toNat*3)).off+2,none⟩=some (.slice A112_2 ((rd_T78 l0 x5_1).f2).length c112_2)∧w'.cell? (ad113.add ((x5_1).toNat*3))=some (.int .i64 ((rd_T78 l1 x5_1).f0))∧w'.cell? ⟨(ad113.add ((x5_1).toNat*3)).block,(ad113.add ((x5_1).toNat*3)).off+1,none⟩=some (.int .i64 ((rd_T78 l1 x5_1).f1))∧w'.cell? ⟨(ad113.add ((x5_1).toNat*3)).block,(ad113.add ((x5_1).toNat*3)).off+2,none⟩=some (.slice A113_2 ((rd_T78 l1 x5_1).f2).length c113_2)∧w'.cell? (ad112.add ((x5_1).toNat*3))=some (.int .i64 ((rd_T78 l0 x5_1).f0))∧w'.cell? ⟨(ad112.add ((x5_1).toNat*3)).block,(ad112.add ((x5_1).toNat*3)).off+1,none⟩=some (.int .i64 ((rd_T78 l0 x5_1).f1))∧w'.cell? ⟨(ad112.add ((x5_1).toNat*3)).block,(ad112.add ((x5_1).toNat*3)).off+2,none⟩=some (.slice A112_2 ((rd_T78 l0 x5_1).f2).length c112_2)∧w'.cell? (ad113.add ((x5_1).toNat*3))=some (.int .i64 ((rd_T78 l1 x5_1).f0))∧w'.cell? ⟨(ad113.add ((x5_1).toNat*3)).block,(ad113.add ((x5_1).toNat*3)).off+1,none⟩=some (.int .i64 ((rd_T78 l1 x5_1).f1))∧w'.cell? ⟨(ad113.add ((x5_1).toNat*3)).block,(ad113.add ((x5_1).toNat*3)).off+2,none⟩=some (.slice A113_2 ((rd_T78 l1 x5_1).f2).length c113_2)) (ds:=[]) (bz 38 0) (by kernel_rfl) rfl rfl ⟨((qd HB hw112_0 :)),((qd HB hw112_1 :)),((qd HB hw112_2 :)),((qd HB hw113_0 :)),((qd HB hw113_1 :)),((qd HB hw113_2 :)),((qd HB hw114_0 :)),((qd HB hw114_1 :)),((qd HB hw114_2 :)),((qd HB hw115_0 :)),((qd HB hw115_1 :)),((qd HB hw115_2 :)),((qd HB hw116_0 :)),((qd HB hw116_1 :)),((qd HB hw116_2 :)),((qd HB hw117_0 :)),((qd HB hw117_1 :)),((qd HB hw117_2 :))⟩ (fun hHeld=>?_);refine with_tabW zSameShapes.tab6 zSameShapes.bits6 (fun HT_ HW_=>?_)
          generalize wr.drew=w12 at HB HR112_2 HR113_2 HR114_2 HR115_2 HR116_2 HR117_2 hx112_0 hx112_1 hx112_2 hx113_0 hx113_1 hx113_2 hx114_0 hx114_1 hx114_2 hx115_0 hx115_1 hx115_2 hx116_0 hx116_1 hx116_2 hx117_0 hx117_1 hx117_2 hHeld ⊢;refine pu 0 17 38 1 ?_;refine pu 1 18 38 2 ?_;refine pu 2 19 38 3 ?_;refine pu 3 20 38 4 ?_;refine pq 5 22 38 47 ?_;refine pq 6 23 38 111 ?_;refine pq 7 24 38 239 ?_;refine pq 8 25 38 495 ?_;refine tk 4 21 38 9 ?_;refine tk 9 26 38 10 ?_;refine pu 10 27 38 11 ?_;refine pu 11 28 38 12 ?_;refine pu 12 29 38 13 ?_;refine pu 13 30 38 14 ?_
          refine pu 14 31 38 15 ?_;refine pu 15 32 38 16 ?_;refine pq 17 34 38 196607 ?_;refine pq 18 35 38 458751 ?_;refine pq 19 36 38 983039 ?_;refine pq 20 37 38 2031615 ?_;refine tk 16 33 38 21 ?_;refine tk 21 38 38 22 ?_;refine pu 22 39 38 23 ?_;refine pu 23 40 38 24 ?_;refine pu 24 41 38 25 ?_;refine pu 25 42 38 26 ?_;refine pu 26 43 38 27 ?_;refine pu 27 44 38 28 ?_;refine pu 28 45 38 29 ?_;refine pq 30 47 38 1610612735 ?_;refine pq 31 48 38 3758096383 ?_;refine pq 32 49 38 8053063679 ?_;refine pq 33 50 38 16642998271 ?_;refine tk 29 46 38 34 ?_;refine tk 34 51 38 35 ?_
          refine one_ (i:=35) (N:=some 52) (bz 38 36) rfl rfl (one_of HT_.out (by kernel_rfl)) (by decide) (fun K hK=>?_);refine goes_ Try.func59 (by kernel_rfl) rfl #[.slice A112_2 ((rd_T78 l0 x5_1).f2).length c112_2,.slice A113_2 ((rd_T78 l1 x5_1).f2).length c113_2] (by rfl) rfl rfl qc ?_
          with_reducible refine (zSameOpnds.calls k1 _ _ ((rd_T78 l0 x5_1).f2) _ _ ((rd_T78 l1 x5_1).f2) false _ ?side1 ?side2 ?side3 ?side4 A9.out).mono ?_
          (case side1=>exact qh (Kd.C_below HR116_2.out HB.out))
          (case side2=>exact HC116_2.out)
          (case side3=>exact qh (Kd.C_below HR117_2.out HB.out))
          (case side4=>exact HC117_2.out)
          rintro e w' ⟨rfl,⟨nd,rfl⟩⟩;refine ⟨_,rfl,?_⟩;refine hK.out _ _ ⟨((qd HB hw112_0 :)),((qd HB hw112_1 :)),((qd HB hw112_2 :)),((qd HB hw113_0 :)),((qd HB hw113_1 :)),((qd HB hw113_2 :)),((qd HB hw114_0 :)),((qd HB hw114_1 :)),((qd HB hw114_2 :)),((qd HB hw115_0 :)),((qd HB hw115_1 :)),((qd HB hw115_2 :)),((qd HB hw116_0 :)),((qd HB hw116_1 :)),((qd HB hw116_2 :)),((qd HB hw117_0 :)),((qd HB hw117_1 :)),((qd HB hw117_2 :))⟩ (fun hHeld=>?_);clear hK K;refine norm_ (a':=?_) ?_ ?_;rotate_left
          ·show Act.put _ (some 52) _=_
           simp only [Act.put,sA,sB,sC,i64_w,i32_w];rfl
          refine pu 36 53 38 37 ?_;refine pu 37 54 38 38 ?_;refine done_ (done_of HT_.out (by kernel_rfl)) ?_
          try go_wp2
          go_ret
          exact ⟨by first |rfl |(simp [errW_none,errW_some]<;>rfl) |(simp [*,errW_none,errW_some]<;>rfl),by repeat (first |(with_reducible first |exact HB.out |apply below_alloc |apply pw_below_drewN |apply below_drew1) |exact HB.out)⟩
        ·rw [if_neg c8] at H;have c8b0:(((rd_T78 l0 x5_1).f1)==((rd_T78 l1 x5_1).f1))=false:=beq_eq_false_iff_ne.mpr c8;have c8b1:(((rd_T78 l0 x5_1).f1) != ((rd_T78 l1 x5_1).f1))=true:=bne_iff_ne.mpr c8;obtain rfl:=Option.some.inj H
         try go_wp2
         have n0_:=ak (below_drew1 HB.out);clear HB;have HB:=n0_;clear n0_;have p112:0≤(x5_1:Int):=dt;have q112:x5_1<(l0.length:Int):=dt;obtain ⟨ad112,A112_2,c112_2,e112,hx112_0,hx112_1,hx112_2,hl112_2,hi112_2⟩:=at_T78 HR0.out x5_1 p112 q112;have hw112_2:=hx112_2;have hw112_1:=hx112_1;have hw112_0:=hx112_0;cases e112;replace hx112_0:=(qd HB hx112_0 :)
         replace hx112_1:=(qd HB hx112_1 :)
         replace hx112_2:=(qd HB hx112_2 :)
         have HR112_2:=ak hi112_2;have HC112_2:=ak hl112_2;clear hi112_2 hl112_2;replace p112:=eq_true p112;replace q112:=eq_true q112;have p113:0≤(x5_1:Int):=dt;have q113:x5_1<(l1.length:Int):=dt;obtain ⟨ad113,A113_2,c113_2,e113,hx113_0,hx113_1,hx113_2,hl113_2,hi113_2⟩:=at_T78 HR1.out x5_1 p113 q113;have hw113_2:=hx113_2;have hw113_1:=hx113_1;have hw113_0:=hx113_0;cases e113;replace hx113_0:=(qd HB hx113_0 :)
         replace hx113_1:=(qd HB hx113_1 :)
         replace hx113_2:=(qd HB hx113_2 :)
         have HR113_2:=ak hi113_2;have HC113_2:=ak hl113_2;clear hi113_2 hl113_2;replace p113:=eq_true p113;replace q113:=eq_true q113;have p114:0≤(x5_1:Int):=dt;have q114:x5_1<(l0.length:Int):=dt;obtain ⟨ad114,A114_2,c114_2,e114,hx114_0,hx114_1,hx114_2,hl114_2,hi114_2⟩:=at_T78 HR0.out x5_1 p114 q114;have hw114_2:=hx114_2;have hw114_1:=hx114_1;have hw114_0:=hx114_0;obtain rfl:ad112=ad114:=(by injection e114)
         replace hx114_0:=(qd HB hx114_0 :)
         replace hx114_1:=(qd HB hx114_1 :)
         replace hx114_2:=(qd HB hx114_2 :)
         have HR114_2:=ak hi114_2;have HC114_2:=ak hl114_2;clear hi114_2 hl114_2;replace p114:=eq_true p114;replace q114:=eq_true q114;have ea_:=Option.some.inj (hx112_2.symm.trans hx114_2);injection ea_ with ea_ en_ ec_;subst ea_;subst ec_;clear en_;have p115:0≤(x5_1:Int):=dt;have q115:x5_1<(l1.length:Int):=dt;obtain ⟨ad115,A115_2,c115_2,e115,hx115_0,hx115_1,hx115_2,hl115_2,hi115_2⟩:=at_T78 HR1.out x5_1 p115 q115;have hw115_2:=hx115_2;have hw115_1:=hx115_1;have hw115_0:=hx115_0;obtain rfl:ad113=ad115:=(by injection e115)
         replace hx115_0:=(qd HB hx115_0 :)
         replace hx115_1:=(qd HB hx115_1 :)
         replace hx115_2:=(qd HB hx115_2 :)
         have HR115_2:=ak hi115_2;have HC115_2:=ak hl115_2;clear hi115_2 hl115_2;replace p115:=eq_true p115;replace q115:=eq_true q115;have ea_:=Option.some.inj (hx113_2.symm.trans hx115_2);injection ea_ with ea_ en_ ec_;subst ea_;subst ec_;clear en_
         refine start_ (n:=38) (S:=fun w'=>w'.cell? (ad112.add ((x5_1).toNat*3))=some (.int .i64 ((rd_T78 l0 x5_1).f0))∧w'.cell? ⟨(ad112.add ((x5_1).toNat*3)).block,(ad112.add ((x5_1).toNat*3)).off+1,none⟩=some (.int .i64 ((rd_T78 l0 x5_1).f1))∧w'.cell? ⟨(ad112.add ((x5_1).toNat*3)).block,(ad112.add ((x5_1).toNat*3)).off+2,none⟩=some (.slice A112_2 ((rd_T78 l0 x5_1).f2).length c112_2)∧w'.cell? (ad113.add ((x5_1).toNat*3))=some (.int .i64 ((rd_T78 l1 x5_1).f0))∧w'.cell? ⟨(ad113.add ((x5_1).toNat*3)).block,(ad113.add ((x5_1).toNat*3)).off+1,none⟩=some (.int .i64 ((rd_T78 l1 x5_1).f1))∧w'.cell? ⟨(ad113.add ((x5_1).toNat*3)).block,(ad113.add ((x5_1).toNat*3)).off+2,none⟩=some (.slice A113_2 ((rd_T78 l1 x5_1).f2).length c113_2)∧w'.cell? (ad112.add ((x5_1).toNat*3))=some (.int .i64 ((rd_T78 l0 x5_1).f0))∧w'.cell? ⟨(ad112.add ((x5_1).toNat*3)).block,(ad112.add ((x5_1).toNat*3)).off+1,none⟩=some (.int .i64 ((rd_T78 l0 x5_1).f1))∧w'.cell? ⟨(ad112.add ((x5_1).toNat*3)).block,(ad112.add ((x5_1).toNat*3)).off+2,none⟩=some (.slice A112_2 ((rd_T78 l0 x5_1).f2).length c112_2)∧w'.cell? (ad113.add ((x5_1).toNat*3))=some (.int .i64 ((rd_T78 l1 x5_1).f0))∧w'.cell? ⟨(ad113.add ((x5_1).toNat*3)).block,(ad113.add ((x5_1).toNat*3)).off+1,none⟩=some (.int .i64 ((rd_T78 l1 x5_1).f1))∧w'.cell? ⟨(ad113.add ((x5_1).toNat*3)).block,(ad113.add ((x5_1).toNat*3)).off+2,none⟩=some (.slice A113_2 ((rd_T78 l1 x5_1).f2).length c113_2)) (ds:=[]) (bz 38 0) (by kernel_rfl) rfl rfl ⟨((qd HB hw112_0 :)),((qd HB hw112_1 :)),((qd HB hw112_2 :)),((qd HB hw113_0 :)),((qd HB hw113_1 :)),((qd HB hw113_2 :)),((qd HB hw114_0 :)),((qd HB hw114_1 :)),((qd HB hw114_2 :)),((qd HB hw115_0 :)),((qd HB hw115_1 :)),((qd HB hw115_2 :))⟩ (fun hHeld=>?_);refine with_tabW zSameShapes.tab6 zSameShapes.bits6 (fun HT_ HW_=>?_)
         generalize wr.drew=w13 at HB HR112_2 HR113_2 HR114_2 HR115_2 hx112_0 hx112_1 hx112_2 hx113_0 hx113_1 hx113_2 hx114_0 hx114_1 hx114_2 hx115_0 hx115_1 hx115_2 hHeld ⊢;refine pu 0 17 38 1 ?_;refine pu 1 18 38 2 ?_;refine pu 2 19 38 3 ?_;refine pu 3 20 38 4 ?_;refine pq 5 22 38 47 ?_;refine pq 6 23 38 111 ?_;refine pq 7 24 38 239 ?_;refine pq 8 25 38 495 ?_;refine tk 4 21 38 9 ?_;refine tk 9 26 38 10 ?_;refine pu 10 27 38 11 ?_;refine pu 11 28 38 12 ?_;refine pu 12 29 38 13 ?_;refine pu 13 30 38 14 ?_;refine pu 14 31 38 15 ?_;refine pu 15 32 38 16 ?_;refine pq 17 34 38 196607 ?_
         refine pq 18 35 38 458751 ?_;refine pq 19 36 38 983039 ?_;refine pq 20 37 38 2031615 ?_;refine tk 16 33 38 21 ?_;refine tk 21 38 38 22 ?_;refine pu 22 39 38 23 ?_;refine pu 23 40 38 24 ?_;refine pu 24 41 38 25 ?_;refine sk 25 42 38 26 ?_;refine sk 26 43 38 27 ?_;refine sk 27 44 38 28 ?_;refine sk 28 45 38 29 ?_;refine sk 29 46 38 30 ?_;refine sk 30 47 38 31 ?_;refine sk 31 48 38 32 ?_;refine sk 32 49 38 33 ?_;refine sk 33 50 38 34 ?_;refine sk 34 51 38 35 ?_;refine sk 35 52 38 36 ?_;refine sk 36 53 38 37 ?_;refine pu 37 54 38 38 ?_;refine done_ (done_of HT_.out (by kernel_rfl)) ?_
         try go_wp2
         go_ret
         exact ⟨by first |rfl |(simp [errW_none,errW_some]<;>rfl) |(simp [*,errW_none,errW_some]<;>rfl),by repeat (first |(with_reducible first |exact HB.out |apply below_alloc |apply pw_below_drewN |apply below_drew1) |exact HB.out)⟩
       ·rw [if_neg c7] at H;have c7b0:(((rd_T78 l0 x5_1).f0)==((rd_T78 l1 x5_1).f0))=false:=beq_eq_false_iff_ne.mpr c7;have c7b1:(((rd_T78 l0 x5_1).f0) != ((rd_T78 l1 x5_1).f0))=true:=bne_iff_ne.mpr c7;obtain rfl:=Option.some.inj H
        try go_wp2
        have n0_:=ak (below_drew1 HB.out);clear HB;have HB:=n0_;clear n0_;have p112:0≤(x5_1:Int):=dt;have q112:x5_1<(l0.length:Int):=dt;obtain ⟨ad112,A112_2,c112_2,e112,hx112_0,hx112_1,hx112_2,hl112_2,hi112_2⟩:=at_T78 HR0.out x5_1 p112 q112;have hw112_2:=hx112_2;have hw112_1:=hx112_1;have hw112_0:=hx112_0;cases e112;replace hx112_0:=(qd HB hx112_0 :)
        replace hx112_1:=(qd HB hx112_1 :)
        replace hx112_2:=(qd HB hx112_2 :)
        have HR112_2:=ak hi112_2;have HC112_2:=ak hl112_2;clear hi112_2 hl112_2;replace p112:=eq_true p112;replace q112:=eq_true q112;have p113:0≤(x5_1:Int):=dt;have q113:x5_1<(l1.length:Int):=dt;obtain ⟨ad113,A113_2,c113_2,e113,hx113_0,hx113_1,hx113_2,hl113_2,hi113_2⟩:=at_T78 HR1.out x5_1 p113 q113;have hw113_2:=hx113_2;have hw113_1:=hx113_1;have hw113_0:=hx113_0;cases e113;replace hx113_0:=(qd HB hx113_0 :)
        replace hx113_1:=(qd HB hx113_1 :)
        replace hx113_2:=(qd HB hx113_2 :)
        have HR113_2:=ak hi113_2;have HC113_2:=ak hl113_2;clear hi113_2 hl113_2;replace p113:=eq_true p113;replace q113:=eq_true q113
        refine start_ (n:=38) (S:=fun w'=>w'.cell? (ad112.add ((x5_1).toNat*3))=some (.int .i64 ((rd_T78 l0 x5_1).f0))∧w'.cell? ⟨(ad112.add ((x5_1).toNat*3)).block,(ad112.add ((x5_1).toNat*3)).off+1,none⟩=some (.int .i64 ((rd_T78 l0 x5_1).f1))∧w'.cell? ⟨(ad112.add ((x5_1).toNat*3)).block,(ad112.add ((x5_1).toNat*3)).off+2,none⟩=some (.slice A112_2 ((rd_T78 l0 x5_1).f2).length c112_2)∧w'.cell? (ad113.add ((x5_1).toNat*3))=some (.int .i64 ((rd_T78 l1 x5_1).f0))∧w'.cell? ⟨(ad113.add ((x5_1).toNat*3)).block,(ad113.add ((x5_1).toNat*3)).off+1,none⟩=some (.int .i64 ((rd_T78 l1 x5_1).f1))∧w'.cell? ⟨(ad113.add ((x5_1).toNat*3)).block,(ad113.add ((x5_1).toNat*3)).off+2,none⟩=some (.slice A113_2 ((rd_T78 l1 x5_1).f2).length c113_2)) (ds:=[]) (bz 38 0) (by kernel_rfl) rfl rfl ⟨((qd HB hw112_0 :)),((qd HB hw112_1 :)),((qd HB hw112_2 :)),((qd HB hw113_0 :)),((qd HB hw113_1 :)),((qd HB hw113_2 :))⟩ (fun hHeld=>?_);refine with_tabW zSameShapes.tab6 zSameShapes.bits6 (fun HT_ HW_=>?_)
        generalize wr.drew=w14 at HB HR112_2 HR113_2 hx112_0 hx112_1 hx112_2 hx113_0 hx113_1 hx113_2 hHeld ⊢;refine pu 0 17 38 1 ?_;refine pu 1 18 38 2 ?_;refine pu 2 19 38 3 ?_;refine pu 3 20 38 4 ?_;refine pq 5 22 38 47 ?_;refine pq 6 23 38 111 ?_;refine pq 7 24 38 239 ?_;refine pq 8 25 38 495 ?_;refine tk 4 21 38 9 ?_;refine tk 9 26 38 10 ?_;refine pu 10 27 38 11 ?_;refine pu 11 28 38 12 ?_;refine sk 12 29 38 13 ?_;refine sk 13 30 38 14 ?_;refine sk 14 31 38 15 ?_;refine sk 15 32 38 16 ?_;refine sk 16 33 38 17 ?_;refine sk 17 34 38 18 ?_;refine sk 18 35 38 19 ?_;refine sk 19 36 38 20 ?_
        refine sk 20 37 38 21 ?_;refine sk 21 38 38 22 ?_;refine sk 22 39 38 23 ?_;refine pu 23 40 38 24 ?_;refine pu 24 41 38 25 ?_;refine sk 25 42 38 26 ?_;refine sk 26 43 38 27 ?_;refine sk 27 44 38 28 ?_;refine sk 28 45 38 29 ?_;refine sk 29 46 38 30 ?_;refine sk 30 47 38 31 ?_;refine sk 31 48 38 32 ?_;refine sk 32 49 38 33 ?_;refine sk 33 50 38 34 ?_;refine sk 34 51 38 35 ?_;refine sk 35 52 38 36 ?_;refine sk 36 53 38 37 ?_;refine pu 37 54 38 38 ?_;refine done_ (done_of HT_.out (by kernel_rfl)) ?_
        try go_wp2
        go_ret
        exact ⟨by first |rfl |(simp [errW_none,errW_some]<;>rfl) |(simp [*,errW_none,errW_some]<;>rfl),by repeat (first |(with_reducible first |exact HB.out |apply below_alloc |apply pw_below_drewN |apply below_drew1) |exact HB.out)⟩
      ·rw [if_neg c6] at H;exact absurd H (by simp)
     ·rw [if_neg c5] at H;exact absurd H (by simp)
    ·rw [if_neg c4] at H;have c4b0:decide (x5_1<(l0.length:Int))=false:=decide_eq_false c4;clear c4;obtain rfl:=Option.some.inj H
     go_wp2
     go_ret
     exact ⟨by first |rfl |(simp [errW_none,errW_some]<;>rfl) |(simp [*,errW_none,errW_some]<;>rfl),by repeat (first |(with_reducible first |exact HB.out |apply below_alloc |apply pw_below_drewN |apply below_drew1) |exact HB.out)⟩
 ·rw [if_neg c3] at H;have c3b0:((l0.length:Int)==(l1.length:Int))=false:=beq_eq_false_iff_ne.mpr c3;have c3b1:((l0.length:Int) != (l1.length:Int))=true:=bne_iff_ne.mpr c3;have c3b2:(l0.length==l1.length)=false:=by first |simpa using c3 |(simp at c3 ⊢; omega)
  obtain rfl:=Option.some.inj H
  go_enter Try.func60,Try.ntmps60
  go_wp2
  go_ret
  exact ⟨by first |rfl |(simp [errW_none,errW_some]<;>rfl) |(simp [*,errW_none,errW_some]<;>rfl),by repeat (first |(with_reducible first |exact HB.out |apply below_alloc |apply pw_below_drewN |apply below_drew1) |exact HB.out)⟩
end Go.Proofs.Ytklknkfoafdgpaa.PLiveKnown
