import Derived.Test.YtklknkfoafdgpaaPLiveKnownx1
namespace Go.Proofs.Ytklknkfoafdgpaa.PLiveKnown
set_option maxHeartbeats 8000000
set_option maxRecDepth 100000
open RowKit YtklknkfoafdgpaaW.PrintWords YtklknkfoafdgpaaW.PrintLast YtklknkfoafdgpaaW.PrintMore
attribute [local go_sem] max2_int min2_int max_two min_two max_three min_three max_four min_four
set_option linter.unusedVariables false
set_option linter.unusedSimpArgs false
attribute [local go_sem high] eqA82
def live_quiet.f (a0_0:Int) (a0_1:Int) (a0_2:Int) (l0_3:List (S82)) (a0_4:Int) (a0_5:Int) (a0_6:Int) (l0_7:List (S78)):Option (Bool):=if a0_0=1 then (some true) else (some (a0_0==2))
theorem live_quiet.calls (a0_0:Int) (a0_1:Int) (a0_2:Int) (A0_3:Option Addr) (c0_3:Nat) (l0_3:List (S82)) (a0_4:Int) (a0_5:Int) (a0_6:Int) (A0_7:Option Addr) (c0_7:Nat) (l0_7:List (S78)) (r:Bool) (w:World) (hr0_3:Kd.C k82 w A0_3 l0_3.length l0_3) (hc0_3:l0_3.length≤c0_3) (hr0_7:Kd.C k78 w A0_7 l0_7.length l0_7) (hc0_7:l0_7.length≤c0_7) (h:live_quiet.f a0_0 a0_1 a0_2 l0_3 a0_4 a0_5 a0_6 l0_7=some r) :
  Calls Try.prog 58 #[.agg #[.int .i64 a0_0,.int .i64 a0_1,.int .i64 a0_2,.slice A0_3 l0_3.length c0_3,.int .i64 a0_4,.int .i64 a0_5,.int .i64 a0_6,.slice A0_7 l0_7.length c0_7]] w fun e w'=>e= .returned (.bool r)∧Below w.heap.size w w':=by
 have hu47:=Try.underlying47;have HR0_3:=ak hr0_3;have HC0_3:=ak hc0_3;clear hr0_3 hc0_3;have HR0_7:=ak hr0_7;have HC0_7:=ak hc0_7;clear hr0_7 hc0_7;have HB:=ak (Below.refl w.heap.size w);have H:(if a0_0=1 then (some true) else (some (a0_0==2)))=some r:=h;clear h
 by_cases c2:a0_0=1
 ·rw [if_pos c2] at H;have c2b0:(a0_0==1)=true:=beq_iff_eq.mpr c2;have c2b1:(a0_0 != 1)=false:=bne_eq_false_iff_eq.mpr c2;clear c2;obtain rfl:=Option.some.inj H
  go_enter Try.func58,Try.ntmps58
  go_wp2_with (first |((with_reducible refine gate_dst (N:=1) rfl ?_);refine box_event ?hg (N:=1) ?hd (cs:= #[.int .i64 a0_0,.int .i64 a0_1,.int .i64 a0_2,.slice A0_3 l0_3.length c0_3,.int .i64 a0_4,.int .i64 a0_5,.int .i64 a0_6,.slice A0_7 l0_7.length c0_7]) (t:=47) ?hr ?_;(case hd=>rfl);(case hg=>rfl);(case hr=>first |(go_simp;done) |(go_simp;rfl));intro gb101 hg w3 hbox hb;have n0_:=ak (below_step qe hb);have n1_:=ak (hbox);have n2_:=ak ((by rw [hg];exact (below_size qe):w.heap.size≤gb101));have n3_:=ak ((by rw [hg];exact (below_size qe):w.heap.size≤gb101));clear HB;have HB:=n0_;have BK101:=n1_;have GW101:=n2_;have GE101:=n3_;clear n0_ n1_ n2_ n3_;clear hb hbox hg;have hcz4_0:w3.cell? ⟨gb101,0,none⟩=some (.int .i64 a0_0):=qj BK101 0;have hcz4_1:w3.cell? ⟨gb101,1,none⟩=some (.int .i64 a0_1):=qj BK101 1;have hcz4_2:w3.cell? ⟨gb101,2,none⟩=some (.int .i64 a0_2):=qj BK101 2;have hcz4_3:w3.cell? ⟨gb101,3,none⟩=some (.slice A0_3 l0_3.length c0_3):=qj BK101 3;have hcz4_4:w3.cell? ⟨gb101,4,none⟩=some (.int .i64 a0_4):=qj BK101 4;have hcz4_5:w3.cell? ⟨gb101,5,none⟩=some (.int .i64 a0_5):=qj BK101 5;have hcz4_6:w3.cell? ⟨gb101,6,none⟩=some (.int .i64 a0_6):=qj BK101 6;have hcz4_7:w3.cell? ⟨gb101,7,none⟩=some (.slice A0_7 l0_7.length c0_7):=qj BK101 7;have hfz4_0:=ql BK101 0;have hfz4_1:=ql BK101 1;have hfz4_2:=ql BK101 2;have hfz4_3:=ql BK101 3;have hfz4_4:=ql BK101 4;have hfz4_5:=ql BK101 5;have hfz4_6:=ql BK101 6;have hfz4_7:=ql BK101 7))
  go_ret
  exact ⟨by first |rfl |(simp [errW_none,errW_some]<;>rfl) |(simp [*,errW_none,errW_some]<;>rfl),by repeat (first |(with_reducible first |exact HB.out |apply below_alloc |apply pw_below_drewN |apply below_drew1 |refine below_set ?_ GE101.out) |exact HB.out)⟩
 ·rw [if_neg c2] at H;have c2b0:(a0_0==1)=false:=beq_eq_false_iff_ne.mpr c2;have c2b1:(a0_0 != 1)=true:=bne_iff_ne.mpr c2;obtain rfl:=Option.some.inj H
  go_enter Try.func58,Try.ntmps58
  go_wp2_with (first |((with_reducible refine gate_dst (N:=1) rfl ?_);refine box_event ?hg (N:=1) ?hd (cs:= #[.int .i64 a0_0,.int .i64 a0_1,.int .i64 a0_2,.slice A0_3 l0_3.length c0_3,.int .i64 a0_4,.int .i64 a0_5,.int .i64 a0_6,.slice A0_7 l0_7.length c0_7]) (t:=47) ?hr ?_;(case hd=>rfl);(case hg=>rfl);(case hr=>first |(go_simp;done) |(go_simp;rfl));intro gb101 hg w5 hbox hb;have n0_:=ak (below_step qe hb);have n1_:=ak (hbox);have n2_:=ak ((by rw [hg];exact (below_size qe):w.heap.size≤gb101));have n3_:=ak ((by rw [hg];exact (below_size qe):w.heap.size≤gb101));clear HB;have HB:=n0_;have BK101:=n1_;have GW101:=n2_;have GE101:=n3_;clear n0_ n1_ n2_ n3_;clear hb hbox hg;have hcz6_0:w5.cell? ⟨gb101,0,none⟩=some (.int .i64 a0_0):=qj BK101 0;have hcz6_1:w5.cell? ⟨gb101,1,none⟩=some (.int .i64 a0_1):=qj BK101 1;have hcz6_2:w5.cell? ⟨gb101,2,none⟩=some (.int .i64 a0_2):=qj BK101 2;have hcz6_3:w5.cell? ⟨gb101,3,none⟩=some (.slice A0_3 l0_3.length c0_3):=qj BK101 3;have hcz6_4:w5.cell? ⟨gb101,4,none⟩=some (.int .i64 a0_4):=qj BK101 4;have hcz6_5:w5.cell? ⟨gb101,5,none⟩=some (.int .i64 a0_5):=qj BK101 5;have hcz6_6:w5.cell? ⟨gb101,6,none⟩=some (.int .i64 a0_6):=qj BK101 6;have hcz6_7:w5.cell? ⟨gb101,7,none⟩=some (.slice A0_7 l0_7.length c0_7):=qj BK101 7;have hfz6_0:=ql BK101 0;have hfz6_1:=ql BK101 1;have hfz6_2:=ql BK101 2;have hfz6_3:=ql BK101 3;have hfz6_4:=ql BK101 4;have hfz6_5:=ql BK101 5;have hfz6_6:=ql BK101 6;have hfz6_7:=ql BK101 7))
  go_ret
  exact ⟨by first |rfl |(simp [errW_none,errW_some]<;>rfl) |(simp [*,errW_none,errW_some]<;>rfl),by repeat (first |(with_reducible first |exact HB.out |apply below_alloc |apply pw_below_drewN |apply below_drew1 |refine below_set ?_ GE101.out) |exact HB.out)⟩
def zSameInts.l0:Nat→List Int→List Int→Int→Option (Bool)
 |0,_,_,_=>none
 |k+1,x0,x1,x5=>if x5<(x0.length:Int) then (if 0≤x5 then (if x5<(x1.length:Int) then (if (rd x0 x5)=(rd x1 x5) then (zSameInts.l0 k x0 x1 (wrap64 (x5+1))) else (some false)) else (none)) else (none)) else (some true)
def zSameInts.f (k:Nat) (l0:List Int) (l1:List Int):Option (Bool):=if (l0.length:Int)=(l1.length:Int) then (zSameInts.l0 k l0 l1 0) else (some false)
theorem zSameInts.calls (k:Nat) (A0:Option Addr) (c0:Nat) (l0:List Int) (A1:Option Addr) (c1:Nat) (l1:List Int) (r:Bool) (w:World) (hr0:Kd.C (Kd.int .i64) w A0 l0.length l0) (hc0:l0.length≤c0) (hr1:Kd.C (Kd.int .i64) w A1 l1.length l1) (hc1:l1.length≤c1) (h:zSameInts.f k l0 l1=some r) :
  Calls Try.prog 12 #[.slice A0 l0.length c0,.slice A1 l1.length c1] w fun e w'=>e= .returned (.bool r)∧Drawn0 w w':=by
 have HR0:=ak hr0;have HC0:=ak hc0;clear hr0 hc0;have HR1:=ak hr1;have HC1:=ak hc1;clear hr1 hc1;have H:(if (l0.length:Int)=(l1.length:Int) then (zSameInts.l0 k l0 l1 0) else (some false))=some r:=h;clear h
 by_cases c3:(l0.length:Int)=(l1.length:Int)
 ·rw [if_pos c3] at H;have c3b0:((l0.length:Int)==(l1.length:Int))=true:=beq_iff_eq.mpr c3;have c3b1:((l0.length:Int) != (l1.length:Int))=false:=bne_eq_false_iff_eq.mpr c3;have c3b2:(l0.length==l1.length)=true:=by first |simpa using c3 |(simp at c3 ⊢; omega)
  clear c3;have H':=ak H;clear H
  go_enter Try.func12,Try.ntmps12
  go_wp2
  repeat (go_quiet (fail);try go_wp2)
  go_loopg [5] k (fun kq v5 w'=>∃ (x5_1:Int),v5= .int .i64 x5_1∧Aside0 (zSameInts.l0 kq l0 l1 x5_1=some r)∧Aside0 (kq≤k)∧Drawn0 w w')
  case atStart=>exact ⟨(0),qa,H',⟨Nat.le_refl _⟩,by repeat (first |exact Drawn0.refl _ |apply Drawn0.step)⟩
  case round =>
   clear H'
   try clear c1
   try clear p2
   try clear c3
   try clear c3b0
   try clear c3b1
   try clear c3b2
   obtain ⟨x5_1,rfl,HA,HK1,⟨m1,rfl⟩⟩:=hrel;cases gk with
   |zero=>exact absurd HA.out (by simp [zSameInts.l0])
   |succ k1 =>
    have H:=HA.out;clear HA;simp only [zSameInts.l0] at H
    by_cases c4:x5_1<(l0.length:Int)
    ·rw [if_pos c4] at H;have c4b0:decide (x5_1<(l0.length:Int))=true:=decide_eq_true c4;clear c4
     by_cases c5:0≤x5_1
     ·rw [if_pos c5] at H;have c5b0:decide (0≤x5_1)=true:=decide_eq_true c5;clear c5
      by_cases c6:x5_1<(l1.length:Int)
      ·rw [if_pos c6] at H;have c6b0:decide (x5_1<(l1.length:Int))=true:=decide_eq_true c6;clear c6
       by_cases c7:(rd l0 x5_1)=(rd l1 x5_1)
       ·rw [if_pos c7] at H;have c7b0:((rd l0 x5_1)==(rd l1 x5_1))=true:=beq_iff_eq.mpr c7;have c7b1:((rd l0 x5_1) != (rd l1 x5_1))=false:=bne_eq_false_iff_eq.mpr c7;clear c7;have H':=ak H;clear H;have p104:0≤(x5_1:Int):=dt;have q104:x5_1<(l0.length:Int):=dt;obtain ⟨ad104,e104,hx104_0⟩:=Kd.at_int HR0.out x5_1 p104 q104;cases e104;replace p104:=eq_true p104;replace q104:=eq_true q104;have p105:0≤(x5_1:Int):=dt;have q105:x5_1<(l1.length:Int):=dt;obtain ⟨ad105,e105,hx105_0⟩:=Kd.at_int HR1.out x5_1 p105 q105;cases e105
        replace p105:=eq_true p105;replace q105:=eq_true q105
        go_wp2
        repeat (go_quiet (fail);try go_wp2)
        go_roundg k1
        case measure=>have:=HK1.out;omega
        case rel=>exact ⟨(wrap64 (x5_1+1)),qa,H',⟨by have:=HK1.out;omega⟩,by repeat (first |exact Drawn0.refl _ |apply Drawn0.step)⟩
       ·rw [if_neg c7] at H;have c7b0:((rd l0 x5_1)==(rd l1 x5_1))=false:=beq_eq_false_iff_ne.mpr c7;have c7b1:((rd l0 x5_1) != (rd l1 x5_1))=true:=bne_iff_ne.mpr c7;obtain rfl:=Option.some.inj H;have p104:0≤(x5_1:Int):=dt;have q104:x5_1<(l0.length:Int):=dt;obtain ⟨ad104,e104,hx104_0⟩:=Kd.at_int HR0.out x5_1 p104 q104;cases e104;replace p104:=eq_true p104;replace q104:=eq_true q104;have p105:0≤(x5_1:Int):=dt;have q105:x5_1<(l1.length:Int):=dt;obtain ⟨ad105,e105,hx105_0⟩:=Kd.at_int HR1.out x5_1 p105 q105;cases e105
        replace p105:=eq_true p105;replace q105:=eq_true q105
        go_wp2
        repeat (go_quiet (fail);try go_wp2)
        go_ret
        exact ⟨by first |rfl |(simp;done) |(simp [*];done),by repeat (first |exact Drawn0.refl _ |apply Drawn0.step)⟩
      ·rw [if_neg c6] at H;exact absurd H (by simp)
     ·rw [if_neg c5] at H;exact absurd H (by simp)
    ·rw [if_neg c4] at H;have c4b0:decide (x5_1<(l0.length:Int))=false:=decide_eq_false c4;clear c4;obtain rfl:=Option.some.inj H
     go_wp2
     repeat (go_quiet (fail);try go_wp2)
     go_ret
     exact ⟨by first |rfl |(simp;done) |(simp [*];done),by repeat (first |exact Drawn0.refl _ |apply Drawn0.step)⟩
 ·rw [if_neg c3] at H;have c3b0:((l0.length:Int)==(l1.length:Int))=false:=beq_eq_false_iff_ne.mpr c3;have c3b1:((l0.length:Int) != (l1.length:Int))=true:=bne_iff_ne.mpr c3;have c3b2:(l0.length==l1.length)=false:=by first |simpa using c3 |(simp at c3 ⊢; omega)
  obtain rfl:=Option.some.inj H
  go_enter Try.func12,Try.ntmps12
  go_wp2
  repeat (go_quiet (fail);try go_wp2)
  go_ret
  exact ⟨by first |rfl |(simp;done) |(simp [*];done),by repeat (first |exact Drawn0.refl _ |apply Drawn0.step)⟩
def zSameOpnds.l0:Nat→List (S82)→List (S82)→Int→Option (Bool)
 |0,_,_,_=>none
 |k+1,x0,x1,x5=>if x5<(x0.length:Int) then (if 0≤x5 then (if x5<(x1.length:Int) then (if (!(((rd_T82 x0 x5).f0)==((rd_T82 x1 x5).f0))||(!(((rd_T82 x0 x5).f1)==((rd_T82 x1 x5).f1))))=true then (some false) else (zSameOpnds.l0 k x0 x1 (wrap64 (x5+1)))) else (none)) else (none)) else (some true)
def zSameOpnds.f (k:Nat) (l0:List (S82)) (l1:List (S82)):Option (Bool):=if (l0.length:Int)=(l1.length:Int) then (zSameOpnds.l0 k l0 l1 0) else (some false)
theorem zSameOpnds.calls (k:Nat) (A0:Option Addr) (c0:Nat) (l0:List (S82)) (A1:Option Addr) (c1:Nat) (l1:List (S82)) (r:Bool) (w:World) (hr0:Kd.C k82 w A0 l0.length l0) (hc0:l0.length≤c0) (hr1:Kd.C k82 w A1 l1.length l1) (hc1:l1.length≤c1) (h:zSameOpnds.f k l0 l1=some r) :
  Calls Try.prog 59 #[.slice A0 l0.length c0,.slice A1 l1.length c1] w fun e w'=>e= .returned (.bool r)∧Drawn0 w w':=by
 have hu82:=Try.underlying82;have HR0:=ak hr0;have HC0:=ak hc0;clear hr0 hc0;have HR1:=ak hr1;have HC1:=ak hc1;clear hr1 hc1;have H:(if (l0.length:Int)=(l1.length:Int) then (zSameOpnds.l0 k l0 l1 0) else (some false))=some r:=h;clear h
 by_cases c3:(l0.length:Int)=(l1.length:Int)
 ·rw [if_pos c3] at H;have c3b0:((l0.length:Int)==(l1.length:Int))=true:=beq_iff_eq.mpr c3;have c3b1:((l0.length:Int) != (l1.length:Int))=false:=bne_eq_false_iff_eq.mpr c3;have c3b2:(l0.length==l1.length)=true:=by first |simpa using c3 |(simp at c3 ⊢; omega)
  clear c3;have H':=ak H;clear H
  go_enter Try.func59,Try.ntmps59
  go_wp2
  repeat (go_quiet (fail);try go_wp2)
  go_loopg [5] k (fun kq v5 w'=>∃ (x5_1:Int),v5= .int .i64 x5_1∧Aside0 (zSameOpnds.l0 kq l0 l1 x5_1=some r)∧Aside0 (kq≤k)∧Drawn0 w w')
  case atStart=>exact ⟨(0),qa,H',⟨Nat.le_refl _⟩,by repeat (first |exact Drawn0.refl _ |apply Drawn0.step)⟩
  case round =>
   clear H'
   try clear c1
   try clear p2
   try clear c3
   try clear c3b0
   try clear c3b1
   try clear c3b2
   obtain ⟨x5_1,rfl,HA,HK1,⟨m1,rfl⟩⟩:=hrel;cases gk with
   |zero=>exact absurd HA.out (by simp [zSameOpnds.l0])
   |succ k1 =>
    have H:=HA.out;clear HA;simp only [zSameOpnds.l0] at H
    by_cases c4:x5_1<(l0.length:Int)
    ·rw [if_pos c4] at H;have c4b0:decide (x5_1<(l0.length:Int))=true:=decide_eq_true c4;clear c4
     by_cases c5:0≤x5_1
     ·rw [if_pos c5] at H;have c5b0:decide (0≤x5_1)=true:=decide_eq_true c5;clear c5
      by_cases c6:x5_1<(l1.length:Int)
      ·rw [if_pos c6] at H;have c6b0:decide (x5_1<(l1.length:Int))=true:=decide_eq_true c6;clear c6
       by_cases c7:(!(((rd_T82 l0 x5_1).f0)==((rd_T82 l1 x5_1).f0))||(!(((rd_T82 l0 x5_1).f1)==((rd_T82 l1 x5_1).f1))))=true
       ·rw [if_pos c7] at H;have c7b0:(!(((rd_T82 l0 x5_1).f0)==((rd_T82 l1 x5_1).f0))||(!(((rd_T82 l0 x5_1).f1)==((rd_T82 l1 x5_1).f1))))=true:=c7;clear c7;obtain rfl:=Option.some.inj H;have p110:0≤(x5_1:Int):=dt;have q110:x5_1<(l0.length:Int):=dt;obtain ⟨ad110,e110,hx110_0,hx110_1⟩:=at_T82 HR0.out x5_1 p110 q110;cases e110;replace p110:=eq_true p110;replace q110:=eq_true q110;have p111:0≤(x5_1:Int):=dt;have q111:x5_1<(l1.length:Int):=dt;obtain ⟨ad111,e111,hx111_0,hx111_1⟩:=at_T82 HR1.out x5_1 p111 q111;cases e111
        replace p111:=eq_true p111;replace q111:=eq_true q111
        go_wp2
        repeat (go_quiet (fail);try go_wp2)
        go_ret
        exact ⟨by first |rfl |(simp;done) |(simp [*];done),by repeat (first |exact Drawn0.refl _ |apply Drawn0.step)⟩
       ·rw [if_neg c7] at H;have c7b0:(!(((rd_T82 l0 x5_1).f0)==((rd_T82 l1 x5_1).f0))||(!(((rd_T82 l0 x5_1).f1)==((rd_T82 l1 x5_1).f1))))=false:=by simpa using c7
        clear c7;have H':=ak H;clear H;have p110:0≤(x5_1:Int):=dt;have q110:x5_1<(l0.length:Int):=dt;obtain ⟨ad110,e110,hx110_0,hx110_1⟩:=at_T82 HR0.out x5_1 p110 q110;cases e110;replace p110:=eq_true p110;replace q110:=eq_true q110;have p111:0≤(x5_1:Int):=dt;have q111:x5_1<(l1.length:Int):=dt;obtain ⟨ad111,e111,hx111_0,hx111_1⟩:=at_T82 HR1.out x5_1 p111 q111;cases e111;replace p111:=eq_true p111;replace q111:=eq_true q111
        go_wp2
        repeat (go_quiet (fail);try go_wp2)
        go_roundg k1
        case measure=>have:=HK1.out;omega
        case rel=>exact ⟨(wrap64 (x5_1+1)),qa,H',⟨by have:=HK1.out;omega⟩,by repeat (first |exact Drawn0.refl _ |apply Drawn0.step)⟩
      ·rw [if_neg c6] at H;exact absurd H (by simp)
     ·rw [if_neg c5] at H;exact absurd H (by simp)
    ·rw [if_neg c4] at H;have c4b0:decide (x5_1<(l0.length:Int))=false:=decide_eq_false c4;clear c4;obtain rfl:=Option.some.inj H
     go_wp2
     repeat (go_quiet (fail);try go_wp2)
     go_ret
     exact ⟨by first |rfl |(simp;done) |(simp [*];done),by repeat (first |exact Drawn0.refl _ |apply Drawn0.step)⟩
 ·rw [if_neg c3] at H;have c3b0:((l0.length:Int)==(l1.length:Int))=false:=beq_eq_false_iff_ne.mpr c3;have c3b1:((l0.length:Int) != (l1.length:Int))=true:=bne_iff_ne.mpr c3;have c3b2:(l0.length==l1.length)=false:=by first |simpa using c3 |(simp at c3 ⊢; omega)
  obtain rfl:=Option.some.inj H
  go_enter Try.func59,Try.ntmps59
  go_wp2
  repeat (go_quiet (fail);try go_wp2)
  go_ret
  exact ⟨by first |rfl |(simp;done) |(simp [*];done),by repeat (first |exact Drawn0.refl _ |apply Drawn0.step)⟩
end Go.Proofs.Ytklknkfoafdgpaa.PLiveKnown
