import Derived.Test.YtklknkfoafdgpaaPLiveKnownx1
namespace Go.Proofs.Ytklknkfoafdgpaa.PLiveKnown
set_option maxHeartbeats 8000000
set_option maxRecDepth 100000
open RowKit YtklknkfoafdgpaaW.PrintWords YtklknkfoafdgpaaW.PrintLast YtklknkfoafdgpaaW.PrintMore
attribute [local go_sem] max2_int min2_int max_two min_two max_three min_three max_four min_four
set_option linter.unusedVariables false
set_option linter.unusedSimpArgs false
mutual
def zasks.l0:Nat→Int→Int→Int→Int→Int→List (S82)→Int→Int→Int→List (S78)→Option (Bool)
 |0,_,_,_,_,_,_,_,_,_,_=>none
 |k+1,x1,x5,x364000,x364001,x364002,x364003,x364004,x364005,x364006,x364007=>if x5<(x364003.length:Int) then (if 0≤x5 then (if ((rd_T82 x364003 x5).f0)=0 then (if ((rd_T82 x364003 x5).f1)=x1 then (some true) else (zasks.l0 k x1 (wrap64 (x5+1)) x364000 x364001 x364002 x364003 x364004 x364005 x364006 x364007)) else (zasks.l0 k x1 (wrap64 (x5+1)) x364000 x364001 x364002 x364003 x364004 x364005 x364006 x364007)) else (none)) else (zasks.l1 k x1 0 x364000 x364001 x364002 x364003 x364004 x364005 x364006 x364007)
def zasks.l1:Nat→Int→Int→Int→Int→Int→List (S82)→Int→Int→Int→List (S78)→Option (Bool)
 |0,_,_,_,_,_,_,_,_,_,_=>none
 |k+1,x1,x6,x364000,x364001,x364002,x364003,x364004,x364005,x364006,x364007=>if x6<(x364007.length:Int) then (zasks.l2 k x1 x6 0 x364000 x364001 x364002 x364003 x364004 x364005 x364006 x364007) else (some false)
def zasks.l2:Nat→Int→Int→Int→Int→Int→Int→List (S82)→Int→Int→Int→List (S78)→Option (Bool)
 |0,_,_,_,_,_,_,_,_,_,_,_=>none
 |k+1,x1,x6,x7,x364000,x364001,x364002,x364003,x364004,x364005,x364006,x364007=>if 0≤x6 then (if x6<(x364007.length:Int) then (if x7<(((rd_T78 x364007 x6).f2).length:Int) then (if 0≤x7 then (if ((rd_T82 ((rd_T78 x364007 x6).f2) x7).f0)=0 then (if ((rd_T82 ((rd_T78 x364007 x6).f2) x7).f1)=x1 then (some true) else (zasks.l2 k x1 x6 (wrap64 (x7+1)) x364000 x364001 x364002 x364003 x364004 x364005 x364006 x364007)) else (zasks.l2 k x1 x6 (wrap64 (x7+1)) x364000 x364001 x364002 x364003 x364004 x364005 x364006 x364007)) else (none)) else (zasks.l1 k x1 (wrap64 (x6+1)) x364000 x364001 x364002 x364003 x364004 x364005 x364006 x364007)) else (none)) else (none)
end
def zasks.f (k:Nat) (a0_0:Int) (a0_1:Int) (a0_2:Int) (l0_3:List (S82)) (a0_4:Int) (a0_5:Int) (a0_6:Int) (l0_7:List (S78)) (a1:Int):Option (Bool):=zasks.l0 k a1 0 a0_0 a0_1 a0_2 l0_3 a0_4 a0_5 a0_6 l0_7
theorem zasks.calls (k:Nat) (a0_0:Int) (a0_1:Int) (a0_2:Int) (A0_3:Option Addr) (c0_3:Nat) (l0_3:List (S82)) (a0_4:Int) (a0_5:Int) (a0_6:Int) (A0_7:Option Addr) (c0_7:Nat) (l0_7:List (S78)) (a1:Int) (r:Bool) (w:World) (hr0_3:Kd.C k82 w A0_3 l0_3.length l0_3) (hc0_3:l0_3.length≤c0_3) (hr0_7:Kd.C k78 w A0_7 l0_7.length l0_7) (hc0_7:l0_7.length≤c0_7) (h:zasks.f k a0_0 a0_1 a0_2 l0_3 a0_4 a0_5 a0_6 l0_7 a1=some r) :
  Calls Try.prog 63 #[.agg #[.int .i64 a0_0,.int .i64 a0_1,.int .i64 a0_2,.slice A0_3 l0_3.length c0_3,.int .i64 a0_4,.int .i64 a0_5,.int .i64 a0_6,.slice A0_7 l0_7.length c0_7],.int .i64 a1] w fun e w'=>e= .returned (.bool r)∧Below w.heap.size w w':=by
 have hu47:=Try.underlying47;have HR0_3:=ak hr0_3;have HC0_3:=ak hc0_3;clear hr0_3 hc0_3;have HR0_7:=ak hr0_7;have HC0_7:=ak hc0_7;clear hr0_7 hc0_7;have HB:=ak (Below.refl w.heap.size w);have H:(zasks.l0 k a1 0 a0_0 a0_1 a0_2 l0_3 a0_4 a0_5 a0_6 l0_7)=some r:=h;clear h;have H':=ak H;clear H
 go_enter Try.func63,Try.ntmps63
 go_wp2_with (first |((with_reducible refine gate_dst (N:=2) rfl ?_);refine box_event ?hg (N:=2) ?hd (cs:= #[.int .i64 a0_0,.int .i64 a0_1,.int .i64 a0_2,.slice A0_3 l0_3.length c0_3,.int .i64 a0_4,.int .i64 a0_5,.int .i64 a0_6,.slice A0_7 l0_7.length c0_7]) (t:=47) ?hr ?_;(case hd=>rfl);(case hg=>rfl);(case hr=>first |(go_simp;done) |(go_simp;rfl));intro gb363 hg w3 hbox hb;have n0_:=ak (below_step qe hb);have n1_:=ak (hbox);have n2_:=ak ((by rw [hg];exact (below_size qe):w.heap.size≤gb363));have n3_:=ak ((by rw [hg];exact (below_size qe):w.heap.size≤gb363));clear HB;have HB:=n0_;have BK363:=n1_;have GW363:=n2_;have GE363:=n3_;clear n0_ n1_ n2_ n3_;clear hb hbox hg))
 go_loopg [5] k (fun kq v5 w'=>∃ (x5_1:Int),v5= .int .i64 x5_1∧Aside0 (zasks.l0 kq a1 x5_1 a0_0 a0_1 a0_2 l0_3 a0_4 a0_5 a0_6 l0_7=some r)∧Aside0 (kq≤k)∧Aside0 (w'.heap[gb363]? =some (.cells #[.int .i64 a0_0,.int .i64 a0_1,.int .i64 a0_2,(.slice A0_3 l0_3.length c0_3),.int .i64 a0_4,.int .i64 a0_5,.int .i64 a0_6,(.slice A0_7 l0_7.length c0_7)] 47 (0,0)))∧Aside0 (Below w.heap.size w w'))
 case atStart=>exact ⟨(0),qa,H',⟨Nat.le_refl _⟩,⟨bk BK363⟩,⟨by repeat (first |(with_reducible first |exact HB.out |apply below_alloc |apply pw_below_drewN |apply below_drew1 |refine below_set ?_ GE363.out) |exact HB.out)⟩⟩
 case round =>
  clear H'
  try clear p2
  obtain ⟨x5_1,rfl,HA,HK1,BK363,HB⟩:=hrel;cases gk with
  |zero=>exact absurd HA.out (by simp [zasks.l0])
  |succ k1 =>
   have H:=HA.out;clear HA;simp only [zasks.l0] at H
   by_cases c4:x5_1<(l0_3.length:Int)
   ·rw [if_pos c4] at H;have c4b0:decide (x5_1<(l0_3.length:Int))=true:=decide_eq_true c4;clear c4
    by_cases c5:0≤x5_1
    ·rw [if_pos c5] at H;have c5b0:decide (0≤x5_1)=true:=decide_eq_true c5;clear c5
     by_cases c6:((rd_T82 l0_3 x5_1).f0)=0
     ·rw [if_pos c6] at H;have c6b0:(((rd_T82 l0_3 x5_1).f0)==0)=true:=beq_iff_eq.mpr c6;have c6b1:(((rd_T82 l0_3 x5_1).f0) != 0)=false:=bne_eq_false_iff_eq.mpr c6;clear c6
      by_cases c7:((rd_T82 l0_3 x5_1).f1)=a1
      ·rw [if_pos c7] at H;have c7b0:(((rd_T82 l0_3 x5_1).f1)==a1)=true:=beq_iff_eq.mpr c7;have c7b1:(((rd_T82 l0_3 x5_1).f1) != a1)=false:=bne_eq_false_iff_eq.mpr c7;clear c7;obtain rfl:=Option.some.inj H;have hcz8_0:wr.cell? ⟨gb363,0,none⟩=some (.int .i64 a0_0):=qj BK363 0;have hcz8_1:wr.cell? ⟨gb363,1,none⟩=some (.int .i64 a0_1):=qj BK363 1;have hcz8_2:wr.cell? ⟨gb363,2,none⟩=some (.int .i64 a0_2):=qj BK363 2;have hcz8_3:wr.cell? ⟨gb363,3,none⟩=some (.slice A0_3 l0_3.length c0_3):=qj BK363 3
       have hcz8_4:wr.cell? ⟨gb363,4,none⟩=some (.int .i64 a0_4):=qj BK363 4;have hcz8_5:wr.cell? ⟨gb363,5,none⟩=some (.int .i64 a0_5):=qj BK363 5;have hcz8_6:wr.cell? ⟨gb363,6,none⟩=some (.int .i64 a0_6):=qj BK363 6;have hcz8_7:wr.cell? ⟨gb363,7,none⟩=some (.slice A0_7 l0_7.length c0_7):=qj BK363 7;have hfz8_0:=ql BK363 0;have hfz8_1:=ql BK363 1;have hfz8_2:=ql BK363 2;have hfz8_3:=ql BK363 3;have hfz8_4:=ql BK363 4;have hfz8_5:=ql BK363 5;have hfz8_6:=ql BK363 6;have hfz8_7:=ql BK363 7;have p364:0≤(x5_1:Int):=dt
       have q364:x5_1<(l0_3.length:Int):=dt;obtain ⟨ad364,e364,hx364_0,hx364_1⟩:=at_T82 HR0_3.out x5_1 p364 q364;cases e364;replace hx364_0:=(qd HB hx364_0 :)
       replace hx364_1:=(qd HB hx364_1 :)
       replace p364:=eq_true p364;replace q364:=eq_true q364;have p365:0≤(x5_1:Int):=dt;have q365:x5_1<(l0_3.length:Int):=dt;obtain ⟨ad365,e365,hx365_0,hx365_1⟩:=at_T82 HR0_3.out x5_1 p365 q365;obtain rfl:ad364=ad365:=(by injection e365)
       replace hx365_0:=(qd HB hx365_0 :)
       replace hx365_1:=(qd HB hx365_1 :)
       replace p365:=eq_true p365;replace q365:=eq_true q365
       go_wp2
       go_ret
       exact ⟨by first |rfl |(simp [errW_none,errW_some]<;>rfl) |(simp [*,errW_none,errW_some]<;>rfl),by repeat (first |(with_reducible first |exact HB.out |apply below_alloc |apply pw_below_drewN |apply below_drew1 |refine below_set ?_ GE363.out) |exact HB.out)⟩
      ·rw [if_neg c7] at H;have c7b0:(((rd_T82 l0_3 x5_1).f1)==a1)=false:=beq_eq_false_iff_ne.mpr c7;have c7b1:(((rd_T82 l0_3 x5_1).f1) != a1)=true:=bne_iff_ne.mpr c7;have H':=ak H;clear H;have hcz9_0:wr.cell? ⟨gb363,0,none⟩=some (.int .i64 a0_0):=qj BK363 0;have hcz9_1:wr.cell? ⟨gb363,1,none⟩=some (.int .i64 a0_1):=qj BK363 1;have hcz9_2:wr.cell? ⟨gb363,2,none⟩=some (.int .i64 a0_2):=qj BK363 2;have hcz9_3:wr.cell? ⟨gb363,3,none⟩=some (.slice A0_3 l0_3.length c0_3):=qj BK363 3
       have hcz9_4:wr.cell? ⟨gb363,4,none⟩=some (.int .i64 a0_4):=qj BK363 4;have hcz9_5:wr.cell? ⟨gb363,5,none⟩=some (.int .i64 a0_5):=qj BK363 5;have hcz9_6:wr.cell? ⟨gb363,6,none⟩=some (.int .i64 a0_6):=qj BK363 6;have hcz9_7:wr.cell? ⟨gb363,7,none⟩=some (.slice A0_7 l0_7.length c0_7):=qj BK363 7;have hfz9_0:=ql BK363 0;have hfz9_1:=ql BK363 1;have hfz9_2:=ql BK363 2;have hfz9_3:=ql BK363 3;have hfz9_4:=ql BK363 4;have hfz9_5:=ql BK363 5;have hfz9_6:=ql BK363 6;have hfz9_7:=ql BK363 7;have p364:0≤(x5_1:Int):=dt
       have q364:x5_1<(l0_3.length:Int):=dt;obtain ⟨ad364,e364,hx364_0,hx364_1⟩:=at_T82 HR0_3.out x5_1 p364 q364;cases e364;replace hx364_0:=(qd HB hx364_0 :)
       replace hx364_1:=(qd HB hx364_1 :)
       replace p364:=eq_true p364;replace q364:=eq_true q364;have p365:0≤(x5_1:Int):=dt;have q365:x5_1<(l0_3.length:Int):=dt;obtain ⟨ad365,e365,hx365_0,hx365_1⟩:=at_T82 HR0_3.out x5_1 p365 q365;obtain rfl:ad364=ad365:=(by injection e365)
       replace hx365_0:=(qd HB hx365_0 :)
       replace hx365_1:=(qd HB hx365_1 :)
       replace p365:=eq_true p365;replace q365:=eq_true q365
       go_wp2
       go_roundg k1
       case measure=>have:=HK1.out;omega
       case rel=>exact ⟨(wrap64 (x5_1+1)),qa,H',⟨by have:=HK1.out;omega⟩,⟨bk BK363⟩,⟨by repeat (first |(with_reducible first |exact HB.out |apply below_alloc |apply pw_below_drewN |apply below_drew1 |refine below_set ?_ GE363.out) |exact HB.out)⟩⟩
     ·rw [if_neg c6] at H;have c6b0:(((rd_T82 l0_3 x5_1).f0)==0)=false:=beq_eq_false_iff_ne.mpr c6;have c6b1:(((rd_T82 l0_3 x5_1).f0) != 0)=true:=bne_iff_ne.mpr c6;have H':=ak H;clear H;have hcz10_0:wr.cell? ⟨gb363,0,none⟩=some (.int .i64 a0_0):=qj BK363 0;have hcz10_1:wr.cell? ⟨gb363,1,none⟩=some (.int .i64 a0_1):=qj BK363 1;have hcz10_2:wr.cell? ⟨gb363,2,none⟩=some (.int .i64 a0_2):=qj BK363 2;have hcz10_3:wr.cell? ⟨gb363,3,none⟩=some (.slice A0_3 l0_3.length c0_3):=qj BK363 3
      have hcz10_4:wr.cell? ⟨gb363,4,none⟩=some (.int .i64 a0_4):=qj BK363 4;have hcz10_5:wr.cell? ⟨gb363,5,none⟩=some (.int .i64 a0_5):=qj BK363 5;have hcz10_6:wr.cell? ⟨gb363,6,none⟩=some (.int .i64 a0_6):=qj BK363 6;have hcz10_7:wr.cell? ⟨gb363,7,none⟩=some (.slice A0_7 l0_7.length c0_7):=qj BK363 7;have hfz10_0:=ql BK363 0;have hfz10_1:=ql BK363 1;have hfz10_2:=ql BK363 2;have hfz10_3:=ql BK363 3;have hfz10_4:=ql BK363 4;have hfz10_5:=ql BK363 5;have hfz10_6:=ql BK363 6;have hfz10_7:=ql BK363 7;have p364:0≤(x5_1:Int):=dt
      have q364:x5_1<(l0_3.length:Int):=dt;obtain ⟨ad364,e364,hx364_0,hx364_1⟩:=at_T82 HR0_3.out x5_1 p364 q364;cases e364;replace hx364_0:=(qd HB hx364_0 :)
      replace hx364_1:=(qd HB hx364_1 :)
      replace p364:=eq_true p364;replace q364:=eq_true q364
      go_wp2
      go_roundg k1
      case measure=>have:=HK1.out;omega
      case rel=>exact ⟨(wrap64 (x5_1+1)),qa,H',⟨by have:=HK1.out;omega⟩,⟨bk BK363⟩,⟨by repeat (first |(with_reducible first |exact HB.out |apply below_alloc |apply pw_below_drewN |apply below_drew1 |refine below_set ?_ GE363.out) |exact HB.out)⟩⟩
    ·rw [if_neg c5] at H;exact absurd H (by simp)
   ·rw [if_neg c4] at H;have c4b0:decide (x5_1<(l0_3.length:Int))=false:=decide_eq_false c4;clear c4;have H':=ak H;clear H;have hcz11_0:wr.cell? ⟨gb363,0,none⟩=some (.int .i64 a0_0):=qj BK363 0;have hcz11_1:wr.cell? ⟨gb363,1,none⟩=some (.int .i64 a0_1):=qj BK363 1;have hcz11_2:wr.cell? ⟨gb363,2,none⟩=some (.int .i64 a0_2):=qj BK363 2;have hcz11_3:wr.cell? ⟨gb363,3,none⟩=some (.slice A0_3 l0_3.length c0_3):=qj BK363 3;have hcz11_4:wr.cell? ⟨gb363,4,none⟩=some (.int .i64 a0_4):=qj BK363 4
    have hcz11_5:wr.cell? ⟨gb363,5,none⟩=some (.int .i64 a0_5):=qj BK363 5;have hcz11_6:wr.cell? ⟨gb363,6,none⟩=some (.int .i64 a0_6):=qj BK363 6;have hcz11_7:wr.cell? ⟨gb363,7,none⟩=some (.slice A0_7 l0_7.length c0_7):=qj BK363 7;have hfz11_0:=ql BK363 0;have hfz11_1:=ql BK363 1;have hfz11_2:=ql BK363 2;have hfz11_3:=ql BK363 3;have hfz11_4:=ql BK363 4;have hfz11_5:=ql BK363 5;have hfz11_6:=ql BK363 6;have hfz11_7:=ql BK363 7
    go_wp2
    go_loopg [6] k1 (fun kq v6 w'=>∃ (x6_2:Int),v6= .int .i64 x6_2∧Aside0 (zasks.l1 kq a1 x6_2 a0_0 a0_1 a0_2 l0_3 a0_4 a0_5 a0_6 l0_7=some r)∧Aside0 (kq≤k1)∧Aside0 (w'.heap[gb363]? =some (.cells #[.int .i64 a0_0,.int .i64 a0_1,.int .i64 a0_2,(.slice A0_3 l0_3.length c0_3),.int .i64 a0_4,.int .i64 a0_5,.int .i64 a0_6,(.slice A0_7 l0_7.length c0_7)] 47 (0,0)))∧Aside0 (Below w.heap.size w w'))
    case atStart=>exact ⟨(0),qa,H',⟨Nat.le_refl _⟩,⟨bk BK363⟩,⟨by repeat (first |(with_reducible first |exact HB.out |apply below_alloc |apply pw_below_drewN |apply below_drew1 |refine below_set ?_ GE363.out) |exact HB.out)⟩⟩
    case round =>
     clear H'
     try clear p2
     try clear p3
     try clear q3
     try clear hx3
     try clear c4
     try clear c4b0
     try clear c5
     try clear c5b0
     try clear c6
     try clear c6b0
     try clear c6b1
     try clear p6
     try clear c7
     try clear c7b0
     try clear c7b1
     try clear hcz10_0
     try clear hcz10_1
     try clear hcz10_2
     try clear hcz10_3
     try clear hcz10_4
     try clear hcz10_5
     try clear hcz10_6
     try clear hcz10_7
     try clear hcz11_0
     try clear hcz11_1
     try clear hcz11_2
     try clear hcz11_3
     try clear hcz11_4
     try clear hcz11_5
     try clear hcz11_6
     try clear hcz11_7
     try clear hcz8_0
     try clear hcz8_1
     try clear hcz8_2
     try clear hcz8_3
     try clear hcz8_4
     try clear hcz8_5
     try clear hcz8_6
     try clear hcz8_7
     try clear hcz9_0
     try clear hcz9_1
     try clear hcz9_2
     try clear hcz9_3
     try clear hcz9_4
     try clear hcz9_5
     try clear hcz9_6
     try clear hcz9_7
     try clear hfz10_0
     try clear hfz10_1
     try clear hfz10_2
     try clear hfz10_3
     try clear hfz10_4
     try clear hfz10_5
     try clear hfz10_6
     try clear hfz10_7
     try clear hfz11_0
     try clear hfz11_1
     try clear hfz11_2
     try clear hfz11_3
     try clear hfz11_4
     try clear hfz11_5
     try clear hfz11_6
     try clear hfz11_7
     try clear hfz8_0
     try clear hfz8_1
     try clear hfz8_2
     try clear hfz8_3
     try clear hfz8_4
     try clear hfz8_5
     try clear hfz8_6
     try clear hfz8_7
     try clear hfz9_0
     try clear hfz9_1
     try clear hfz9_2
     try clear hfz9_3
     try clear hfz9_4
     try clear hfz9_5
     try clear hfz9_6
     try clear hfz9_7
     try clear hx364_0
     try clear hx364_1
     try clear hx365_0
     try clear hx365_1
     try clear p2
     try clear p364
     try clear p365
     try clear q364
     try clear q365
     obtain ⟨x6_2,rfl,HA,HK2,BK363,HB⟩:=hrel;cases gk with
     |zero=>exact absurd HA.out (by simp [zasks.l1])
     |succ k2 =>
      have H:=HA.out;clear HA;simp only [zasks.l1] at H
      by_cases c12:x6_2<(l0_7.length:Int)
      ·rw [if_pos c12] at H;have c12b0:decide (x6_2<(l0_7.length:Int))=true:=decide_eq_true c12;clear c12;have H':=ak H;clear H;have hcz13_0:wr.cell? ⟨gb363,0,none⟩=some (.int .i64 a0_0):=qj BK363 0;have hcz13_1:wr.cell? ⟨gb363,1,none⟩=some (.int .i64 a0_1):=qj BK363 1;have hcz13_2:wr.cell? ⟨gb363,2,none⟩=some (.int .i64 a0_2):=qj BK363 2;have hcz13_3:wr.cell? ⟨gb363,3,none⟩=some (.slice A0_3 l0_3.length c0_3):=qj BK363 3;have hcz13_4:wr.cell? ⟨gb363,4,none⟩=some (.int .i64 a0_4):=qj BK363 4
       have hcz13_5:wr.cell? ⟨gb363,5,none⟩=some (.int .i64 a0_5):=qj BK363 5;have hcz13_6:wr.cell? ⟨gb363,6,none⟩=some (.int .i64 a0_6):=qj BK363 6;have hcz13_7:wr.cell? ⟨gb363,7,none⟩=some (.slice A0_7 l0_7.length c0_7):=qj BK363 7;have hfz13_0:=ql BK363 0;have hfz13_1:=ql BK363 1;have hfz13_2:=ql BK363 2;have hfz13_3:=ql BK363 3;have hfz13_4:=ql BK363 4;have hfz13_5:=ql BK363 5;have hfz13_6:=ql BK363 6;have hfz13_7:=ql BK363 7
       go_wp2
       go_loopg [7] k2 (fun kq v7 w'=>∃ (x7_3:Int),v7= .int .i64 x7_3∧Aside0 (zasks.l2 kq a1 x6_2 x7_3 a0_0 a0_1 a0_2 l0_3 a0_4 a0_5 a0_6 l0_7=some r)∧Aside0 (kq≤k2)∧Aside0 (w'.heap[gb363]? =some (.cells #[.int .i64 a0_0,.int .i64 a0_1,.int .i64 a0_2,(.slice A0_3 l0_3.length c0_3),.int .i64 a0_4,.int .i64 a0_5,.int .i64 a0_6,(.slice A0_7 l0_7.length c0_7)] 47 (0,0)))∧Aside0 (Below w.heap.size w w'))
       case atStart=>exact ⟨(0),qa,H',⟨Nat.le_refl _⟩,⟨bk BK363⟩,⟨by repeat (first |(with_reducible first |exact HB.out |apply below_alloc |apply pw_below_drewN |apply below_drew1 |refine below_set ?_ GE363.out) |exact HB.out)⟩⟩
       case round =>
        clear H'
        try clear c1
        try clear p2
        try clear p3
        try clear q3
        try clear hx3
        try clear c4
        try clear c4b0
        try clear c5
        try clear c5b0
        try clear c6
        try clear c6b0
        try clear c6b1
        try clear p6
        try clear c7
        try clear c7b0
        try clear c7b1
        try clear c12
        try clear c12b0
        try clear hcz10_0
        try clear hcz10_1
        try clear hcz10_2
        try clear hcz10_3
        try clear hcz10_4
        try clear hcz10_5
        try clear hcz10_6
        try clear hcz10_7
        try clear hcz11_0
        try clear hcz11_1
        try clear hcz11_2
        try clear hcz11_3
        try clear hcz11_4
        try clear hcz11_5
        try clear hcz11_6
        try clear hcz11_7
        try clear hcz13_0
        try clear hcz13_1
        try clear hcz13_2
        try clear hcz13_3
        try clear hcz13_4
        try clear hcz13_5
        try clear hcz13_6
        try clear hcz13_7
        try clear hcz8_0
        try clear hcz8_1
        try clear hcz8_2
        try clear hcz8_3
        try clear hcz8_4
        try clear hcz8_5
        try clear hcz8_6
        try clear hcz8_7
        try clear hcz9_0
        try clear hcz9_1
        try clear hcz9_2
        try clear hcz9_3
        try clear hcz9_4
        try clear hcz9_5
        try clear hcz9_6
        try clear hcz9_7
        try clear hfz10_0
        try clear hfz10_1
        try clear hfz10_2
        try clear hfz10_3
        try clear hfz10_4
        try clear hfz10_5
        try clear hfz10_6
        try clear hfz10_7
        try clear hfz11_0
        try clear hfz11_1
        try clear hfz11_2
        try clear hfz11_3
        try clear hfz11_4
        try clear hfz11_5
        try clear hfz11_6
        try clear hfz11_7
        try clear hfz13_0
        try clear hfz13_1
        try clear hfz13_2
        try clear hfz13_3
        try clear hfz13_4
        try clear hfz13_5
        try clear hfz13_6
        try clear hfz13_7
        try clear hfz8_0
        try clear hfz8_1
        try clear hfz8_2
        try clear hfz8_3
        try clear hfz8_4
        try clear hfz8_5
        try clear hfz8_6
        try clear hfz8_7
        try clear hfz9_0
        try clear hfz9_1
        try clear hfz9_2
        try clear hfz9_3
        try clear hfz9_4
        try clear hfz9_5
        try clear hfz9_6
        try clear hfz9_7
        try clear hx364_0
        try clear hx364_1
        try clear hx365_0
        try clear hx365_1
        try clear p2
        try clear p3
        try clear p364
        try clear p365
        try clear p6
        try clear q3
        try clear q364
        try clear q365
        obtain ⟨x7_3,rfl,HA,HK3,BK363,HB⟩:=hrel;cases gk with
        |zero=>exact absurd HA.out (by simp [zasks.l2])
        |succ k3 =>
         have H:=HA.out;clear HA;simp only [zasks.l2] at H
         by_cases c14:0≤x6_2
         ·rw [if_pos c14] at H;have c14b0:decide (0≤x6_2)=true:=decide_eq_true c14;clear c14
          by_cases c15:x6_2<(l0_7.length:Int)
          ·rw [if_pos c15] at H;have c15b0:decide (x6_2<(l0_7.length:Int))=true:=decide_eq_true c15;clear c15
           by_cases c16:x7_3<(((rd_T78 l0_7 x6_2).f2).length:Int)
           ·rw [if_pos c16] at H;have c16b0:decide (x7_3<(((rd_T78 l0_7 x6_2).f2).length:Int))=true:=decide_eq_true c16;clear c16
            by_cases c17:0≤x7_3
            ·rw [if_pos c17] at H;have c17b0:decide (0≤x7_3)=true:=decide_eq_true c17;clear c17
             by_cases c18:((rd_T82 ((rd_T78 l0_7 x6_2).f2) x7_3).f0)=0
             ·rw [if_pos c18] at H;have c18b0:(((rd_T82 ((rd_T78 l0_7 x6_2).f2) x7_3).f0)==0)=true:=beq_iff_eq.mpr c18;have c18b1:(((rd_T82 ((rd_T78 l0_7 x6_2).f2) x7_3).f0) != 0)=false:=bne_eq_false_iff_eq.mpr c18;clear c18
              by_cases c19:((rd_T82 ((rd_T78 l0_7 x6_2).f2) x7_3).f1)=a1
              ·rw [if_pos c19] at H;have c19b0:(((rd_T82 ((rd_T78 l0_7 x6_2).f2) x7_3).f1)==a1)=true:=beq_iff_eq.mpr c19;have c19b1:(((rd_T82 ((rd_T78 l0_7 x6_2).f2) x7_3).f1) != a1)=false:=bne_eq_false_iff_eq.mpr c19;clear c19;obtain rfl:=Option.some.inj H;have hcz20_0:wr.cell? ⟨gb363,0,none⟩=some (.int .i64 a0_0):=qj BK363 0;have hcz20_1:wr.cell? ⟨gb363,1,none⟩=some (.int .i64 a0_1):=qj BK363 1;have hcz20_2:wr.cell? ⟨gb363,2,none⟩=some (.int .i64 a0_2):=qj BK363 2
               have hcz20_3:wr.cell? ⟨gb363,3,none⟩=some (.slice A0_3 l0_3.length c0_3):=qj BK363 3;have hcz20_4:wr.cell? ⟨gb363,4,none⟩=some (.int .i64 a0_4):=qj BK363 4;have hcz20_5:wr.cell? ⟨gb363,5,none⟩=some (.int .i64 a0_5):=qj BK363 5;have hcz20_6:wr.cell? ⟨gb363,6,none⟩=some (.int .i64 a0_6):=qj BK363 6;have hcz20_7:wr.cell? ⟨gb363,7,none⟩=some (.slice A0_7 l0_7.length c0_7):=qj BK363 7;have hfz20_0:=ql BK363 0;have hfz20_1:=ql BK363 1;have hfz20_2:=ql BK363 2;have hfz20_3:=ql BK363 3;have hfz20_4:=ql BK363 4;have hfz20_5:=ql BK363 5
               have hfz20_6:=ql BK363 6;have hfz20_7:=ql BK363 7;have p366:0≤(x6_2:Int):=dt;have q366:x6_2<(l0_7.length:Int):=dt;obtain ⟨ad366,A366_2,c366_2,e366,hx366_0,hx366_1,hx366_2,hl366_2,hi366_2⟩:=at_T78 HR0_7.out x6_2 p366 q366;cases e366;replace hx366_0:=(qd HB hx366_0 :)
               replace hx366_1:=(qd HB hx366_1 :)
               replace hx366_2:=(qd HB hx366_2 :)
               have HR366_2:=ak hi366_2;have HC366_2:=ak hl366_2;clear hi366_2 hl366_2;replace p366:=eq_true p366;replace q366:=eq_true q366;have p367:0≤(x6_2:Int):=dt;have q367:x6_2<(l0_7.length:Int):=dt;obtain ⟨ad367,A367_2,c367_2,e367,hx367_0,hx367_1,hx367_2,hl367_2,hi367_2⟩:=at_T78 HR0_7.out x6_2 p367 q367;obtain rfl:ad366=ad367:=(by injection e367)
               replace hx367_0:=(qd HB hx367_0 :)
               replace hx367_1:=(qd HB hx367_1 :)
               replace hx367_2:=(qd HB hx367_2 :)
               have HR367_2:=ak hi367_2;have HC367_2:=ak hl367_2;clear hi367_2 hl367_2;replace p367:=eq_true p367;replace q367:=eq_true q367;have ea_:=Option.some.inj (hx366_2.symm.trans hx367_2);injection ea_ with ea_ en_ ec_;subst ea_;subst ec_;clear en_;have p368:0≤(x7_3:Int):=dt;have q368:x7_3<(((rd_T78 l0_7 x6_2).f2).length:Int):=dt;obtain ⟨ad368,e368,hx368_0,hx368_1⟩:=at_T82 HR367_2.out x7_3 p368 q368;cases e368;replace hx368_0:=(qd HB hx368_0 :)
               replace hx368_1:=(qd HB hx368_1 :)
               replace p368:=eq_true p368;replace q368:=eq_true q368;have p369:0≤(x6_2:Int):=dt;have q369:x6_2<(l0_7.length:Int):=dt;obtain ⟨ad369,A369_2,c369_2,e369,hx369_0,hx369_1,hx369_2,hl369_2,hi369_2⟩:=at_T78 HR0_7.out x6_2 p369 q369;obtain rfl:ad366=ad369:=(by injection e369)
               replace hx369_0:=(qd HB hx369_0 :)
               replace hx369_1:=(qd HB hx369_1 :)
               replace hx369_2:=(qd HB hx369_2 :)
               have HR369_2:=ak hi369_2;have HC369_2:=ak hl369_2;clear hi369_2 hl369_2;replace p369:=eq_true p369;replace q369:=eq_true q369;have ea_:=Option.some.inj (hx366_2.symm.trans hx369_2);injection ea_ with ea_ en_ ec_;subst ea_;subst ec_;clear en_;have p370:0≤(x7_3:Int):=dt;have q370:x7_3<(((rd_T78 l0_7 x6_2).f2).length:Int):=dt;obtain ⟨ad370,e370,hx370_0,hx370_1⟩:=at_T82 HR369_2.out x7_3 p370 q370;cases e370;replace hx370_0:=(qd HB hx370_0 :)
               replace hx370_1:=(qd HB hx370_1 :)
               replace p370:=eq_true p370;replace q370:=eq_true q370
               go_wp2
               go_ret
               exact ⟨by first |rfl |(simp [errW_none,errW_some]<;>rfl) |(simp [*,errW_none,errW_some]<;>rfl),by repeat (first |(with_reducible first |exact HB.out |apply below_alloc |apply pw_below_drewN |apply below_drew1 |refine below_set ?_ GE363.out) |exact HB.out)⟩
              ·rw [if_neg c19] at H;have c19b0:(((rd_T82 ((rd_T78 l0_7 x6_2).f2) x7_3).f1)==a1)=false:=beq_eq_false_iff_ne.mpr c19;have c19b1:(((rd_T82 ((rd_T78 l0_7 x6_2).f2) x7_3).f1) != a1)=true:=bne_iff_ne.mpr c19;have H':=ak H;clear H;have hcz21_0:wr.cell? ⟨gb363,0,none⟩=some (.int .i64 a0_0):=qj BK363 0;have hcz21_1:wr.cell? ⟨gb363,1,none⟩=some (.int .i64 a0_1):=qj BK363 1;have hcz21_2:wr.cell? ⟨gb363,2,none⟩=some (.int .i64 a0_2):=qj BK363 2;have hcz21_3:wr.cell? ⟨gb363,3,none⟩=some (.slice A0_3 l0_3.length c0_3):=qj BK363 3
               have hcz21_4:wr.cell? ⟨gb363,4,none⟩=some (.int .i64 a0_4):=qj BK363 4;have hcz21_5:wr.cell? ⟨gb363,5,none⟩=some (.int .i64 a0_5):=qj BK363 5;have hcz21_6:wr.cell? ⟨gb363,6,none⟩=some (.int .i64 a0_6):=qj BK363 6;have hcz21_7:wr.cell? ⟨gb363,7,none⟩=some (.slice A0_7 l0_7.length c0_7):=qj BK363 7;have hfz21_0:=ql BK363 0;have hfz21_1:=ql BK363 1;have hfz21_2:=ql BK363 2;have hfz21_3:=ql BK363 3;have hfz21_4:=ql BK363 4;have hfz21_5:=ql BK363 5;have hfz21_6:=ql BK363 6;have hfz21_7:=ql BK363 7;have p366:0≤(x6_2:Int):=dt
               have q366:x6_2<(l0_7.length:Int):=dt;obtain ⟨ad366,A366_2,c366_2,e366,hx366_0,hx366_1,hx366_2,hl366_2,hi366_2⟩:=at_T78 HR0_7.out x6_2 p366 q366;cases e366;replace hx366_0:=(qd HB hx366_0 :)
               replace hx366_1:=(qd HB hx366_1 :)
               replace hx366_2:=(qd HB hx366_2 :)
               have HR366_2:=ak hi366_2;have HC366_2:=ak hl366_2;clear hi366_2 hl366_2;replace p366:=eq_true p366;replace q366:=eq_true q366;have p367:0≤(x6_2:Int):=dt;have q367:x6_2<(l0_7.length:Int):=dt;obtain ⟨ad367,A367_2,c367_2,e367,hx367_0,hx367_1,hx367_2,hl367_2,hi367_2⟩:=at_T78 HR0_7.out x6_2 p367 q367;obtain rfl:ad366=ad367:=(by injection e367)
               replace hx367_0:=(qd HB hx367_0 :)
               replace hx367_1:=(qd HB hx367_1 :)
               replace hx367_2:=(qd HB hx367_2 :)
               have HR367_2:=ak hi367_2;have HC367_2:=ak hl367_2;clear hi367_2 hl367_2;replace p367:=eq_true p367;replace q367:=eq_true q367;have ea_:=Option.some.inj (hx366_2.symm.trans hx367_2);injection ea_ with ea_ en_ ec_;subst ea_;subst ec_;clear en_;have p368:0≤(x7_3:Int):=dt;have q368:x7_3<(((rd_T78 l0_7 x6_2).f2).length:Int):=dt;obtain ⟨ad368,e368,hx368_0,hx368_1⟩:=at_T82 HR367_2.out x7_3 p368 q368;cases e368;replace hx368_0:=(qd HB hx368_0 :)
               replace hx368_1:=(qd HB hx368_1 :)
               replace p368:=eq_true p368;replace q368:=eq_true q368;have p369:0≤(x6_2:Int):=dt;have q369:x6_2<(l0_7.length:Int):=dt;obtain ⟨ad369,A369_2,c369_2,e369,hx369_0,hx369_1,hx369_2,hl369_2,hi369_2⟩:=at_T78 HR0_7.out x6_2 p369 q369;obtain rfl:ad366=ad369:=(by injection e369)
               replace hx369_0:=(qd HB hx369_0 :)
               replace hx369_1:=(qd HB hx369_1 :)
               replace hx369_2:=(qd HB hx369_2 :)
               have HR369_2:=ak hi369_2;have HC369_2:=ak hl369_2;clear hi369_2 hl369_2;replace p369:=eq_true p369;replace q369:=eq_true q369;have ea_:=Option.some.inj (hx366_2.symm.trans hx369_2);injection ea_ with ea_ en_ ec_;subst ea_;subst ec_;clear en_;have p370:0≤(x7_3:Int):=dt;have q370:x7_3<(((rd_T78 l0_7 x6_2).f2).length:Int):=dt;obtain ⟨ad370,e370,hx370_0,hx370_1⟩:=at_T82 HR369_2.out x7_3 p370 q370;cases e370;replace hx370_0:=(qd HB hx370_0 :)
               replace hx370_1:=(qd HB hx370_1 :)
               replace p370:=eq_true p370;replace q370:=eq_true q370
               go_wp2
               go_roundg k3
               case measure=>have:=HK1.out;have:=HK2.out;have:=HK3.out;omega
               case rel=>exact ⟨(wrap64 (x7_3+1)),qa,H',⟨by have:=HK1.out;have:=HK2.out;have:=HK3.out;omega⟩,⟨bk BK363⟩,⟨by repeat (first |(with_reducible first |exact HB.out |apply below_alloc |apply pw_below_drewN |apply below_drew1 |refine below_set ?_ GE363.out) |exact HB.out)⟩⟩
             ·rw [if_neg c18] at H;have c18b0:(((rd_T82 ((rd_T78 l0_7 x6_2).f2) x7_3).f0)==0)=false:=beq_eq_false_iff_ne.mpr c18;have c18b1:(((rd_T82 ((rd_T78 l0_7 x6_2).f2) x7_3).f0) != 0)=true:=bne_iff_ne.mpr c18;have H':=ak H;clear H;have hcz22_0:wr.cell? ⟨gb363,0,none⟩=some (.int .i64 a0_0):=qj BK363 0;have hcz22_1:wr.cell? ⟨gb363,1,none⟩=some (.int .i64 a0_1):=qj BK363 1;have hcz22_2:wr.cell? ⟨gb363,2,none⟩=some (.int .i64 a0_2):=qj BK363 2;have hcz22_3:wr.cell? ⟨gb363,3,none⟩=some (.slice A0_3 l0_3.length c0_3):=qj BK363 3
              have hcz22_4:wr.cell? ⟨gb363,4,none⟩=some (.int .i64 a0_4):=qj BK363 4;have hcz22_5:wr.cell? ⟨gb363,5,none⟩=some (.int .i64 a0_5):=qj BK363 5;have hcz22_6:wr.cell? ⟨gb363,6,none⟩=some (.int .i64 a0_6):=qj BK363 6;have hcz22_7:wr.cell? ⟨gb363,7,none⟩=some (.slice A0_7 l0_7.length c0_7):=qj BK363 7;have hfz22_0:=ql BK363 0;have hfz22_1:=ql BK363 1;have hfz22_2:=ql BK363 2;have hfz22_3:=ql BK363 3;have hfz22_4:=ql BK363 4;have hfz22_5:=ql BK363 5;have hfz22_6:=ql BK363 6;have hfz22_7:=ql BK363 7;have p366:0≤(x6_2:Int):=dt
              have q366:x6_2<(l0_7.length:Int):=dt;obtain ⟨ad366,A366_2,c366_2,e366,hx366_0,hx366_1,hx366_2,hl366_2,hi366_2⟩:=at_T78 HR0_7.out x6_2 p366 q366;cases e366;replace hx366_0:=(qd HB hx366_0 :)
              replace hx366_1:=(qd HB hx366_1 :)
              replace hx366_2:=(qd HB hx366_2 :)
              have HR366_2:=ak hi366_2;have HC366_2:=ak hl366_2;clear hi366_2 hl366_2;replace p366:=eq_true p366;replace q366:=eq_true q366;have p367:0≤(x6_2:Int):=dt;have q367:x6_2<(l0_7.length:Int):=dt;obtain ⟨ad367,A367_2,c367_2,e367,hx367_0,hx367_1,hx367_2,hl367_2,hi367_2⟩:=at_T78 HR0_7.out x6_2 p367 q367;obtain rfl:ad366=ad367:=(by injection e367)
              replace hx367_0:=(qd HB hx367_0 :)
              replace hx367_1:=(qd HB hx367_1 :)
              replace hx367_2:=(qd HB hx367_2 :)
              have HR367_2:=ak hi367_2;have HC367_2:=ak hl367_2;clear hi367_2 hl367_2;replace p367:=eq_true p367;replace q367:=eq_true q367;have ea_:=Option.some.inj (hx366_2.symm.trans hx367_2);injection ea_ with ea_ en_ ec_;subst ea_;subst ec_;clear en_;have p368:0≤(x7_3:Int):=dt;have q368:x7_3<(((rd_T78 l0_7 x6_2).f2).length:Int):=dt;obtain ⟨ad368,e368,hx368_0,hx368_1⟩:=at_T82 HR367_2.out x7_3 p368 q368;cases e368;replace hx368_0:=(qd HB hx368_0 :)
              replace hx368_1:=(qd HB hx368_1 :)
              replace p368:=eq_true p368;replace q368:=eq_true q368
              go_wp2
              go_roundg k3
              case measure=>have:=HK1.out;have:=HK2.out;have:=HK3.out;omega
              case rel=>exact ⟨(wrap64 (x7_3+1)),qa,H',⟨by have:=HK1.out;have:=HK2.out;have:=HK3.out;omega⟩,⟨bk BK363⟩,⟨by repeat (first |(with_reducible first |exact HB.out |apply below_alloc |apply pw_below_drewN |apply below_drew1 |refine below_set ?_ GE363.out) |exact HB.out)⟩⟩
            ·rw [if_neg c17] at H;exact absurd H (by simp)
           ·rw [if_neg c16] at H;have c16b0:decide (x7_3<(((rd_T78 l0_7 x6_2).f2).length:Int))=false:=decide_eq_false c16;clear c16;have H':=ak H;clear H;have hcz23_0:wr.cell? ⟨gb363,0,none⟩=some (.int .i64 a0_0):=qj BK363 0;have hcz23_1:wr.cell? ⟨gb363,1,none⟩=some (.int .i64 a0_1):=qj BK363 1;have hcz23_2:wr.cell? ⟨gb363,2,none⟩=some (.int .i64 a0_2):=qj BK363 2;have hcz23_3:wr.cell? ⟨gb363,3,none⟩=some (.slice A0_3 l0_3.length c0_3):=qj BK363 3;have hcz23_4:wr.cell? ⟨gb363,4,none⟩=some (.int .i64 a0_4):=qj BK363 4
            have hcz23_5:wr.cell? ⟨gb363,5,none⟩=some (.int .i64 a0_5):=qj BK363 5;have hcz23_6:wr.cell? ⟨gb363,6,none⟩=some (.int .i64 a0_6):=qj BK363 6;have hcz23_7:wr.cell? ⟨gb363,7,none⟩=some (.slice A0_7 l0_7.length c0_7):=qj BK363 7;have hfz23_0:=ql BK363 0;have hfz23_1:=ql BK363 1;have hfz23_2:=ql BK363 2;have hfz23_3:=ql BK363 3;have hfz23_4:=ql BK363 4;have hfz23_5:=ql BK363 5;have hfz23_6:=ql BK363 6;have hfz23_7:=ql BK363 7;have p366:0≤(x6_2:Int):=dt;have q366:x6_2<(l0_7.length:Int):=dt
            obtain ⟨ad366,A366_2,c366_2,e366,hx366_0,hx366_1,hx366_2,hl366_2,hi366_2⟩:=at_T78 HR0_7.out x6_2 p366 q366;cases e366;replace hx366_0:=(qd HB hx366_0 :)
            replace hx366_1:=(qd HB hx366_1 :)
            replace hx366_2:=(qd HB hx366_2 :)
            have HR366_2:=ak hi366_2;have HC366_2:=ak hl366_2;clear hi366_2 hl366_2;replace p366:=eq_true p366;replace q366:=eq_true q366
            go_wp2
            go_roundg k3
            case measure=>have:=HK1.out;have:=HK2.out;have:=HK3.out;omega
            case rel=>exact ⟨(wrap64 (x6_2+1)),qa,H',⟨by have:=HK1.out;have:=HK2.out;have:=HK3.out;omega⟩,⟨bk BK363⟩,⟨by repeat (first |(with_reducible first |exact HB.out |apply below_alloc |apply pw_below_drewN |apply below_drew1 |refine below_set ?_ GE363.out) |exact HB.out)⟩⟩
          ·rw [if_neg c15] at H;exact absurd H (by simp)
         ·rw [if_neg c14] at H;exact absurd H (by simp)
      ·rw [if_neg c12] at H;have c12b0:decide (x6_2<(l0_7.length:Int))=false:=decide_eq_false c12;clear c12;obtain rfl:=Option.some.inj H;have hcz24_0:wr.cell? ⟨gb363,0,none⟩=some (.int .i64 a0_0):=qj BK363 0;have hcz24_1:wr.cell? ⟨gb363,1,none⟩=some (.int .i64 a0_1):=qj BK363 1;have hcz24_2:wr.cell? ⟨gb363,2,none⟩=some (.int .i64 a0_2):=qj BK363 2;have hcz24_3:wr.cell? ⟨gb363,3,none⟩=some (.slice A0_3 l0_3.length c0_3):=qj BK363 3;have hcz24_4:wr.cell? ⟨gb363,4,none⟩=some (.int .i64 a0_4):=qj BK363 4
       have hcz24_5:wr.cell? ⟨gb363,5,none⟩=some (.int .i64 a0_5):=qj BK363 5;have hcz24_6:wr.cell? ⟨gb363,6,none⟩=some (.int .i64 a0_6):=qj BK363 6;have hcz24_7:wr.cell? ⟨gb363,7,none⟩=some (.slice A0_7 l0_7.length c0_7):=qj BK363 7;have hfz24_0:=ql BK363 0;have hfz24_1:=ql BK363 1;have hfz24_2:=ql BK363 2;have hfz24_3:=ql BK363 3;have hfz24_4:=ql BK363 4;have hfz24_5:=ql BK363 5;have hfz24_6:=ql BK363 6;have hfz24_7:=ql BK363 7
       go_wp2
       go_ret
       exact ⟨by first |rfl |(simp [errW_none,errW_some]<;>rfl) |(simp [*,errW_none,errW_some]<;>rfl),by repeat (first |(with_reducible first |exact HB.out |apply below_alloc |apply pw_below_drewN |apply below_drew1 |refine below_set ?_ GE363.out) |exact HB.out)⟩
end Go.Proofs.Ytklknkfoafdgpaa.PLiveKnown
