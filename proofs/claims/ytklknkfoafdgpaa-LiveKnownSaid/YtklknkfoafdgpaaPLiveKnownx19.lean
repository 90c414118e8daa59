import Derived.Test.YtklknkfoafdgpaaPLiveKnownx1
import Derived.Test.YtklknkfoafdgpaaPLiveKnownx18
namespace Go.Proofs.Ytklknkfoafdgpaa.PLiveKnown
set_option maxHeartbeats 8000000
set_option maxRecDepth 100000
open RowKit YtklknkfoafdgpaaW.PrintWords YtklknkfoafdgpaaW.PrintLast YtklknkfoafdgpaaW.PrintMore
attribute [local go_sem] max2_int min2_int max_two min_two max_three min_three max_four min_four
set_option linter.unusedVariables false
set_option linter.unusedSimpArgs false
def zalong.l0:Nat→List (S47)→List Bool→Int→Int→Option (Int)
 |0,_,_,_,_=>none
 |k+1,x0,x1,x3,x9=>if x9<(x0.length:Int) then (if 0≤x9 then (if x9<(x1.length:Int) then (if rdOf false x1 x9=true then (zalong.l0 k x0 x1 x3 (wrap64 (x9+1))) else ((zasks.f k ((rd_T47 x0 x9).f0) ((rd_T47 x0 x9).f1) ((rd_T47 x0 x9).f2) ((rd_T47 x0 x9).f3) ((rd_T47 x0 x9).f4) ((rd_T47 x0 x9).f5) ((rd_T47 x0 x9).f6) ((rd_T47 x0 x9).f7) x3).bind fun t373=>(if t373=true then (some 1) else (if ((rd_T47 x0 x9).f2)=x3 then (some 2) else (zalong.l0 k x0 x1 x3 (wrap64 (x9+1))))))) else (none)) else (none)) else (some 0)
def zalong.f (k:Nat) (l0:List (S47)) (l1:List Bool) (a2:Int) (a3:Int):Option (Int):=zalong.l0 k l0 l1 a3 a2
theorem zalong.calls (k:Nat) (A0:Option Addr) (c0:Nat) (l0:List (S47)) (A1:Option Addr) (c1:Nat) (l1:List Bool) (a2:Int) (a3:Int) (r:Int) (w:World) (hr0:Kd.C k47 w A0 l0.length l0) (hc0:l0.length≤c0) (hr1:Kd.C Kd.bool w A1 l1.length l1) (hc1:l1.length≤c1) (h:zalong.f k l0 l1 a2 a3=some r) :
  Calls Try.prog 45 #[.slice A0 l0.length c0,.slice A1 l1.length c1,.int .i64 a2,.int .i64 a3] w fun e w'=>e= .returned (.int .i64 r)∧Below w.heap.size w w':=by
 have hu47:=Try.underlying47;have HR0:=ak hr0;have HC0:=ak hc0;clear hr0 hc0;have HR1:=ak hr1;have HC1:=ak hc1;clear hr1 hc1;have HB:=ak (Below.refl w.heap.size w);have H:(zalong.l0 k l0 l1 a3 a2)=some r:=h;clear h;have H':=ak H;clear H
 go_enter Try.func45,Try.ntmps45
 go_wp2
 go_loopg [9] k (fun kq v9 w'=>∃ (x9_1:Int),v9= .int .i64 x9_1∧Aside0 (zalong.l0 kq l0 l1 a3 x9_1=some r)∧Aside0 (kq≤k)∧Aside0 (Below w.heap.size w w'))
 case atStart=>exact ⟨(a2),qa,H',⟨Nat.le_refl _⟩,⟨by repeat (first |(with_reducible first |exact HB.out |apply below_alloc |apply pw_below_drewN |apply below_drew1) |exact HB.out)⟩⟩
 case round =>
  clear H'
  try clear c1
  try clear p2
  try clear c4
  obtain ⟨x9_1,rfl,HA,HK1,HB⟩:=hrel;cases gk with
  |zero=>exact absurd HA.out (by simp [zalong.l0])
  |succ k1 =>
   have H:=HA.out;clear HA;simp only [zalong.l0] at H
   by_cases c5:x9_1<(l0.length:Int)
   ·rw [if_pos c5] at H;have c5b0:decide (x9_1<(l0.length:Int))=true:=decide_eq_true c5;clear c5
    by_cases c6:0≤x9_1
    ·rw [if_pos c6] at H;have c6b0:decide (0≤x9_1)=true:=decide_eq_true c6;clear c6
     by_cases c7:x9_1<(l1.length:Int)
     ·rw [if_pos c7] at H;have c7b0:decide (x9_1<(l1.length:Int))=true:=decide_eq_true c7;clear c7;obtain ⟨bq8,hbq8⟩:∃ b_:Bool,b_=(rdOf false l1 x9_1):=⟨_,rfl⟩
      replace H:(if bq8=true then (zalong.l0 k1 l0 l1 a3 (wrap64 (x9_1+1))) else ((zasks.f k1 ((rd_T47 l0 x9_1).f0) ((rd_T47 l0 x9_1).f1) ((rd_T47 l0 x9_1).f2) ((rd_T47 l0 x9_1).f3) ((rd_T47 l0 x9_1).f4) ((rd_T47 l0 x9_1).f5) ((rd_T47 l0 x9_1).f6) ((rd_T47 l0 x9_1).f7) a3).bind fun t373=>(if t373=true then (some 1) else (if ((rd_T47 l0 x9_1).f2)=a3 then (some 2) else (zalong.l0 k1 l0 l1 a3 (wrap64 (x9_1+1)))))))=some r:=by rw [←hbq8] at H;exact H
      have Nbq8:=ak hbq8;clear hbq8
      by_cases c9:bq8=true
      ·subst c9;have H1:(zalong.l0 k1 l0 l1 a3 (wrap64 (x9_1+1)))=some r:=by rw [if_pos rfl] at H;exact H
       clear H;have H:=H1;clear H1;have H':=ak H;clear H;have p371:0≤(x9_1:Int):=dt;have q371:x9_1<(l1.length:Int):=dt;obtain ⟨ad371,e371,hx371_0⟩:=Kd.at_bool HR1.out x9_1 p371 q371
       (try rw [←Nbq8.out] at hx371_0)
       cases e371;replace hx371_0:=(qd HB hx371_0 :)
       replace p371:=eq_true p371;replace q371:=eq_true q371
       go_wp2
       go_roundg k1
       case measure=>have:=HK1.out;omega
       case rel=>exact ⟨(wrap64 (x9_1+1)),qa,H',⟨by have:=HK1.out;omega⟩,⟨by repeat (first |(with_reducible first |exact HB.out |apply below_alloc |apply pw_below_drewN |apply below_drew1) |exact HB.out)⟩⟩
      ·replace c9:=Bool.eq_false_iff.mpr c9;subst c9;have H1:((zasks.f k1 ((rd_T47 l0 x9_1).f0) ((rd_T47 l0 x9_1).f1) ((rd_T47 l0 x9_1).f2) ((rd_T47 l0 x9_1).f3) ((rd_T47 l0 x9_1).f4) ((rd_T47 l0 x9_1).f5) ((rd_T47 l0 x9_1).f6) ((rd_T47 l0 x9_1).f7) a3).bind fun t373=>(if t373=true then (some 1) else (if ((rd_T47 l0 x9_1).f2)=a3 then (some 2) else (zalong.l0 k1 l0 l1 a3 (wrap64 (x9_1+1))))))=some r:=by rw [if_neg (show ¬ (false=true) by decide)] at H;exact H
       clear H;have H:=H1;clear H1;replace H:=Option.bind_eq_some_iff.mp H;obtain ⟨t373,A100,H⟩:=H;replace H:(if t373=true then (some 1) else (if ((rd_T47 l0 x9_1).f2)=a3 then (some 2) else (zalong.l0 k1 l0 l1 a3 (wrap64 (x9_1+1)))))=some r:=H;have A10:=ak A100;clear A100
       by_cases c11:t373=true
       ·subst c11;have H1:(some 1)=some r:=by rw [if_pos rfl] at H;exact H
        clear H;have H:=H1;clear H1;obtain rfl:=Option.some.inj H;have p371:0≤(x9_1:Int):=dt;have q371:x9_1<(l1.length:Int):=dt;obtain ⟨ad371,e371,hx371_0⟩:=Kd.at_bool HR1.out x9_1 p371 q371
        (try rw [←Nbq8.out] at hx371_0)
        cases e371;replace hx371_0:=(qd HB hx371_0 :)
        replace p371:=eq_true p371;replace q371:=eq_true q371;have p372:0≤(x9_1:Int):=dt;have q372:x9_1<(l0.length:Int):=dt;obtain ⟨ad372,A372_3,c372_3,A372_7,c372_7,e372,hx372_0,hx372_1,hx372_2,hx372_3,hx372_4,hx372_5,hx372_6,hx372_7,hl372_3,hi372_3,hl372_7,hi372_7⟩:=at_T47 HR0.out x9_1 p372 q372;cases e372;replace hx372_0:=(qd HB hx372_0 :)
        replace hx372_1:=(qd HB hx372_1 :)
        replace hx372_2:=(qd HB hx372_2 :)
        replace hx372_3:=(qd HB hx372_3 :)
        replace hx372_4:=(qd HB hx372_4 :)
        replace hx372_5:=(qd HB hx372_5 :)
        replace hx372_6:=(qd HB hx372_6 :)
        replace hx372_7:=(qd HB hx372_7 :)
        have HR372_3:=ak hi372_3;have HC372_3:=ak hl372_3;clear hi372_3 hl372_3;have HR372_7:=ak hi372_7;have HC372_7:=ak hl372_7;clear hi372_7 hl372_7;replace p372:=eq_true p372;replace q372:=eq_true q372
        go_wp2_with (first |((with_reducible refine gate_callee (f:=63) rfl ?_);refine goesL_ (some 26) rfl rfl Try.func63 (by kernel_rfl) rfl #[.agg #[.int .i64 ((rd_T47 l0 x9_1).f0),.int .i64 ((rd_T47 l0 x9_1).f1),.int .i64 ((rd_T47 l0 x9_1).f2),.slice A372_3 ((rd_T47 l0 x9_1).f3).length c372_3,.int .i64 ((rd_T47 l0 x9_1).f4),.int .i64 ((rd_T47 l0 x9_1).f5),.int .i64 ((rd_T47 l0 x9_1).f6),.slice A372_7 ((rd_T47 l0 x9_1).f7).length c372_7],.int .i64 a3] rfl qc ?_;(with_reducible refine (zasks.calls k1 ((rd_T47 l0 x9_1).f0) ((rd_T47 l0 x9_1).f1) ((rd_T47 l0 x9_1).f2) _ _ ((rd_T47 l0 x9_1).f3) ((rd_T47 l0 x9_1).f4) ((rd_T47 l0 x9_1).f5) ((rd_T47 l0 x9_1).f6) _ _ ((rd_T47 l0 x9_1).f7) a3 true _ ?side1 ?side2 ?side3 ?side4 A10.out).mono ?_);(case side1=>exact qh (Kd.C_below HR372_3.out HB.out));(case side2=>exact HC372_3.out);(case side3=>exact qh (Kd.C_below HR372_7.out HB.out));(case side4=>exact HC372_7.out);rintro e w12 ⟨rfl,hb⟩;refine ⟨_,rfl,?_⟩;have n0_:=ak (below_step qe hb);clear HB;have HB:=n0_;clear n0_;(try clear hb);(try clear hb2);(try clear hk);(try clear hi)))
        go_ret
        exact ⟨by first |rfl |(simp [errW_none,errW_some]<;>rfl) |(simp [*,errW_none,errW_some]<;>rfl),by repeat (first |(with_reducible first |exact HB.out |apply below_alloc |apply pw_below_drewN |apply below_drew1) |exact HB.out)⟩
       ·replace c11:=Bool.eq_false_iff.mpr c11;subst c11;have H1:(if ((rd_T47 l0 x9_1).f2)=a3 then (some 2) else (zalong.l0 k1 l0 l1 a3 (wrap64 (x9_1+1))))=some r:=by rw [if_neg (show ¬ (false=true) by decide)] at H;exact H
        clear H;have H:=H1;clear H1
        by_cases c13:((rd_T47 l0 x9_1).f2)=a3
        ·rw [if_pos c13] at H;have c13b0:(((rd_T47 l0 x9_1).f2)==a3)=true:=beq_iff_eq.mpr c13;have c13b1:(((rd_T47 l0 x9_1).f2) != a3)=false:=bne_eq_false_iff_eq.mpr c13;clear c13;obtain rfl:=Option.some.inj H;have p371:0≤(x9_1:Int):=dt;have q371:x9_1<(l1.length:Int):=dt;obtain ⟨ad371,e371,hx371_0⟩:=Kd.at_bool HR1.out x9_1 p371 q371
         (try rw [←Nbq8.out] at hx371_0)
         cases e371;replace hx371_0:=(qd HB hx371_0 :)
         replace p371:=eq_true p371;replace q371:=eq_true q371;have p372:0≤(x9_1:Int):=dt;have q372:x9_1<(l0.length:Int):=dt;obtain ⟨ad372,A372_3,c372_3,A372_7,c372_7,e372,hx372_0,hx372_1,hx372_2,hx372_3,hx372_4,hx372_5,hx372_6,hx372_7,hl372_3,hi372_3,hl372_7,hi372_7⟩:=at_T47 HR0.out x9_1 p372 q372;cases e372;replace hx372_0:=(qd HB hx372_0 :)
         replace hx372_1:=(qd HB hx372_1 :)
         replace hx372_2:=(qd HB hx372_2 :)
         replace hx372_3:=(qd HB hx372_3 :)
         replace hx372_4:=(qd HB hx372_4 :)
         replace hx372_5:=(qd HB hx372_5 :)
         replace hx372_6:=(qd HB hx372_6 :)
         replace hx372_7:=(qd HB hx372_7 :)
         have HR372_3:=ak hi372_3;have HC372_3:=ak hl372_3;clear hi372_3 hl372_3;have HR372_7:=ak hi372_7;have HC372_7:=ak hl372_7;clear hi372_7 hl372_7;replace p372:=eq_true p372;replace q372:=eq_true q372
         go_wp2_with (first |((with_reducible refine gate_callee (f:=63) rfl ?_);refine goesL_ (some 26) rfl rfl Try.func63 (by kernel_rfl) rfl #[.agg #[.int .i64 ((rd_T47 l0 x9_1).f0),.int .i64 ((rd_T47 l0 x9_1).f1),.int .i64 ((rd_T47 l0 x9_1).f2),.slice A372_3 ((rd_T47 l0 x9_1).f3).length c372_3,.int .i64 ((rd_T47 l0 x9_1).f4),.int .i64 ((rd_T47 l0 x9_1).f5),.int .i64 ((rd_T47 l0 x9_1).f6),.slice A372_7 ((rd_T47 l0 x9_1).f7).length c372_7],.int .i64 a3] rfl qc ?_;(with_reducible refine (zasks.calls k1 ((rd_T47 l0 x9_1).f0) ((rd_T47 l0 x9_1).f1) ((rd_T47 l0 x9_1).f2) _ _ ((rd_T47 l0 x9_1).f3) ((rd_T47 l0 x9_1).f4) ((rd_T47 l0 x9_1).f5) ((rd_T47 l0 x9_1).f6) _ _ ((rd_T47 l0 x9_1).f7) a3 false _ ?side1 ?side2 ?side3 ?side4 A10.out).mono ?_);(case side1=>exact qh (Kd.C_below HR372_3.out HB.out));(case side2=>exact HC372_3.out);(case side3=>exact qh (Kd.C_below HR372_7.out HB.out));(case side4=>exact HC372_7.out);rintro e w14 ⟨rfl,hb⟩;refine ⟨_,rfl,?_⟩;have n0_:=ak (below_step qe hb);clear HB;have HB:=n0_;clear n0_;(try clear hb);(try clear hb2);(try clear hk);(try clear hi);have p374:0≤(x9_1:Int):=dt;have q374:x9_1<(l0.length:Int):=dt;obtain ⟨ad374,A374_3,c374_3,A374_7,c374_7,e374,hx374_0,hx374_1,hx374_2,hx374_3,hx374_4,hx374_5,hx374_6,hx374_7,hl374_3,hi374_3,hl374_7,hi374_7⟩:=at_T47 HR0.out x9_1 p374 q374;obtain rfl:ad372=ad374:=(by injection e374);replace hx374_0:=(qd HB hx374_0 :);replace hx374_1:=(qd HB hx374_1 :);replace hx374_2:=(qd HB hx374_2 :);replace hx374_3:=(qd HB hx374_3 :);replace hx374_4:=(qd HB hx374_4 :);replace hx374_5:=(qd HB hx374_5 :);replace hx374_6:=(qd HB hx374_6 :);replace hx374_7:=(qd HB hx374_7 :);have HR374_3:=ak hi374_3;have HC374_3:=ak hl374_3;clear hi374_3 hl374_3;have HR374_7:=ak hi374_7;have HC374_7:=ak hl374_7;clear hi374_7 hl374_7;replace p374:=eq_true p374;replace q374:=eq_true q374))
         go_ret
         exact ⟨by first |rfl |(simp [errW_none,errW_some]<;>rfl) |(simp [*,errW_none,errW_some]<;>rfl),by repeat (first |(with_reducible first |exact HB.out |apply below_alloc |apply pw_below_drewN |apply below_drew1) |exact HB.out)⟩
        ·rw [if_neg c13] at H;have c13b0:(((rd_T47 l0 x9_1).f2)==a3)=false:=beq_eq_false_iff_ne.mpr c13;have c13b1:(((rd_T47 l0 x9_1).f2) != a3)=true:=bne_iff_ne.mpr c13;have H':=ak H;clear H;have p371:0≤(x9_1:Int):=dt;have q371:x9_1<(l1.length:Int):=dt;obtain ⟨ad371,e371,hx371_0⟩:=Kd.at_bool HR1.out x9_1 p371 q371
         (try rw [←Nbq8.out] at hx371_0)
         cases e371;replace hx371_0:=(qd HB hx371_0 :)
         replace p371:=eq_true p371;replace q371:=eq_true q371;have p372:0≤(x9_1:Int):=dt;have q372:x9_1<(l0.length:Int):=dt;obtain ⟨ad372,A372_3,c372_3,A372_7,c372_7,e372,hx372_0,hx372_1,hx372_2,hx372_3,hx372_4,hx372_5,hx372_6,hx372_7,hl372_3,hi372_3,hl372_7,hi372_7⟩:=at_T47 HR0.out x9_1 p372 q372;cases e372;replace hx372_0:=(qd HB hx372_0 :)
         replace hx372_1:=(qd HB hx372_1 :)
         replace hx372_2:=(qd HB hx372_2 :)
         replace hx372_3:=(qd HB hx372_3 :)
         replace hx372_4:=(qd HB hx372_4 :)
         replace hx372_5:=(qd HB hx372_5 :)
         replace hx372_6:=(qd HB hx372_6 :)
         replace hx372_7:=(qd HB hx372_7 :)
         have HR372_3:=ak hi372_3;have HC372_3:=ak hl372_3;clear hi372_3 hl372_3;have HR372_7:=ak hi372_7;have HC372_7:=ak hl372_7;clear hi372_7 hl372_7;replace p372:=eq_true p372;replace q372:=eq_true q372
         go_wp2_with (first |((with_reducible refine gate_callee (f:=63) rfl ?_);refine goesL_ (some 26) rfl rfl Try.func63 (by kernel_rfl) rfl #[.agg #[.int .i64 ((rd_T47 l0 x9_1).f0),.int .i64 ((rd_T47 l0 x9_1).f1),.int .i64 ((rd_T47 l0 x9_1).f2),.slice A372_3 ((rd_T47 l0 x9_1).f3).length c372_3,.int .i64 ((rd_T47 l0 x9_1).f4),.int .i64 ((rd_T47 l0 x9_1).f5),.int .i64 ((rd_T47 l0 x9_1).f6),.slice A372_7 ((rd_T47 l0 x9_1).f7).length c372_7],.int .i64 a3] rfl qc ?_;(with_reducible refine (zasks.calls k1 ((rd_T47 l0 x9_1).f0) ((rd_T47 l0 x9_1).f1) ((rd_T47 l0 x9_1).f2) _ _ ((rd_T47 l0 x9_1).f3) ((rd_T47 l0 x9_1).f4) ((rd_T47 l0 x9_1).f5) ((rd_T47 l0 x9_1).f6) _ _ ((rd_T47 l0 x9_1).f7) a3 false _ ?side1 ?side2 ?side3 ?side4 A10.out).mono ?_);(case side1=>exact qh (Kd.C_below HR372_3.out HB.out));(case side2=>exact HC372_3.out);(case side3=>exact qh (Kd.C_below HR372_7.out HB.out));(case side4=>exact HC372_7.out);rintro e w15 ⟨rfl,hb⟩;refine ⟨_,rfl,?_⟩;have n0_:=ak (below_step qe hb);clear HB;have HB:=n0_;clear n0_;(try clear hb);(try clear hb2);(try clear hk);(try clear hi);have p374:0≤(x9_1:Int):=dt;have q374:x9_1<(l0.length:Int):=dt;obtain ⟨ad374,A374_3,c374_3,A374_7,c374_7,e374,hx374_0,hx374_1,hx374_2,hx374_3,hx374_4,hx374_5,hx374_6,hx374_7,hl374_3,hi374_3,hl374_7,hi374_7⟩:=at_T47 HR0.out x9_1 p374 q374;obtain rfl:ad372=ad374:=(by injection e374);replace hx374_0:=(qd HB hx374_0 :);replace hx374_1:=(qd HB hx374_1 :);replace hx374_2:=(qd HB hx374_2 :);replace hx374_3:=(qd HB hx374_3 :);replace hx374_4:=(qd HB hx374_4 :);replace hx374_5:=(qd HB hx374_5 :);replace hx374_6:=(qd HB hx374_6 :);replace hx374_7:=(qd HB hx374_7 :);have HR374_3:=ak hi374_3;have HC374_3:=ak hl374_3;clear hi374_3 hl374_3;have HR374_7:=ak hi374_7;have HC374_7:=ak hl374_7;clear hi374_7 hl374_7;replace p374:=eq_true p374;replace q374:=eq_true q374))
         go_roundg k1
         case measure=>have:=HK1.out;omega
         case rel=>exact ⟨(wrap64 (x9_1+1)),qa,H',⟨by have:=HK1.out;omega⟩,⟨by repeat (first |(with_reducible first |exact HB.out |apply below_alloc |apply pw_below_drewN |apply below_drew1) |exact HB.out)⟩⟩
     ·rw [if_neg c7] at H;exact absurd H (by simp)
    ·rw [if_neg c6] at H;exact absurd H (by simp)
   ·rw [if_neg c5] at H;have c5b0:decide (x9_1<(l0.length:Int))=false:=decide_eq_false c5;clear c5;obtain rfl:=Option.some.inj H
    go_wp2
    go_ret
    exact ⟨by first |rfl |(simp [errW_none,errW_some]<;>rfl) |(simp [*,errW_none,errW_some]<;>rfl),by repeat (first |(with_reducible first |exact HB.out |apply below_alloc |apply pw_below_drewN |apply below_drew1) |exact HB.out)⟩
end Go.Proofs.Ytklknkfoafdgpaa.PLiveKnown
