import Derived.Test.YtklknkfoafdgpaaPLiveKnownx1
namespace Go.Proofs.Ytklknkfoafdgpaa.PLiveKnown
set_option maxHeartbeats 8000000
set_option maxRecDepth 100000
open RowKit YtklknkfoafdgpaaW.PrintWords YtklknkfoafdgpaaW.PrintLast YtklknkfoafdgpaaW.PrintMore
attribute [local go_sem] max2_int min2_int max_two min_two max_three min_three max_four min_four
set_option linter.unusedVariables false
set_option linter.unusedSimpArgs false
mutual
def portageref24_asks.l0:Nat→Int→Int→Int→Int→Int→List (S82)→Int→Int→Int→List (S78)→Option (Bool)
 |0,_,_,_,_,_,_,_,_,_,_=>none
 |k+1,x1,x5,x180000,x180001,x180002,x180003,x180004,x180005,x180006,x180007=>if x5<(x180003.length:Int) then (if 0≤x5 then (if ((rd_T82 x180003 x5).f0)=0 then (if ((rd_T82 x180003 x5).f1)=x1 then (some true) else (portageref24_asks.l0 k x1 (wrap64 (x5+1)) x180000 x180001 x180002 x180003 x180004 x180005 x180006 x180007)) else (portageref24_asks.l0 k x1 (wrap64 (x5+1)) x180000 x180001 x180002 x180003 x180004 x180005 x180006 x180007)) else (none)) else (portageref24_asks.l1 k x1 0 x180000 x180001 x180002 x180003 x180004 x180005 x180006 x180007)
def portageref24_asks.l1:Nat→Int→Int→Int→Int→Int→List (S82)→Int→Int→Int→List (S78)→Option (Bool)
 |0,_,_,_,_,_,_,_,_,_,_=>none
 |k+1,x1,x6,x180000,x180001,x180002,x180003,x180004,x180005,x180006,x180007=>if x6<(x180007.length:Int) then (portageref24_asks.l2 k x1 x6 0 x180000 x180001 x180002 x180003 x180004 x180005 x180006 x180007) else (some false)
def portageref24_asks.l2:Nat→Int→Int→Int→Int→Int→Int→List (S82)→Int→Int→Int→List (S78)→Option (Bool)
 |0,_,_,_,_,_,_,_,_,_,_,_=>none
 |k+1,x1,x6,x7,x180000,x180001,x180002,x180003,x180004,x180005,x180006,x180007=>if 0≤x6 then (if x6<(x180007.length:Int) then (if x7<(((rd_T78 x180007 x6).f2).length:Int) then (if 0≤x7 then (if ((rd_T82 ((rd_T78 x180007 x6).f2) x7).f0)=0 then (if ((rd_T82 ((rd_T78 x180007 x6).f2) x7).f1)=x1 then (some true) else (portageref24_asks.l2 k x1 x6 (wrap64 (x7+1)) x180000 x180001 x180002 x180003 x180004 x180005 x180006 x180007)) else (portageref24_asks.l2 k x1 x6 (wrap64 (x7+1)) x180000 x180001 x180002 x180003 x180004 x180005 x180006 x180007)) else (none)) else (portageref24_asks.l1 k x1 (wrap64 (x6+1)) x180000 x180001 x180002 x180003 x180004 x180005 x180006 x180007)) else (none)) else (none)
end
def portageref24_asks.f (k:Nat) (a0_0:Int) (a0_1:Int) (a0_2:Int) (l0_3:List (S82)) (a0_4:Int) (a0_5:Int) (a0_6:Int) (l0_7:List (S78)) (a1:Int):Option (Bool):=portageref24_asks.l0 k a1 0 a0_0 a0_1 a0_2 l0_3 a0_4 a0_5 a0_6 l0_7
theorem portageref24_asks.calls (k:Nat) (a0_0:Int) (a0_1:Int) (a0_2:Int) (A0_3:Option Addr) (c0_3:Nat) (l0_3:List (S82)) (a0_4:Int) (a0_5:Int) (a0_6:Int) (A0_7:Option Addr) (c0_7:Nat) (l0_7:List (S78)) (a1:Int) (r:Bool) (w:World) (hr0_3:Kd.C k82 w A0_3 l0_3.length l0_3) (hc0_3:l0_3.length≤c0_3) (hr0_7:Kd.C k78 w A0_7 l0_7.length l0_7) (hc0_7:l0_7.length≤c0_7) (h:portageref24_asks.f k a0_0 a0_1 a0_2 l0_3 a0_4 a0_5 a0_6 l0_7 a1=some r) :
  Calls Try.prog 65 #[.agg #[.int .i64 a0_0,.int .i64 a0_1,.int .i64 a0_2,.slice A0_3 l0_3.length c0_3,.int .i64 a0_4,.int .i64 a0_5,.int .i64 a0_6,.slice A0_7 l0_7.length c0_7],.int .i64 a1] w fun e w'=>e= .returned (.bool r)∧Below w.heap.size w w':=by
 have hu47:=Try.underlying47;have hu82:=Try.underlying82;have HR0_3:=ak hr0_3;have HC0_3:=ak hc0_3;clear hr0_3 hc0_3;have HR0_7:=ak hr0_7;have HC0_7:=ak hc0_7;clear hr0_7 hc0_7;have HB:=ak (Below.refl w.heap.size w);have H:(portageref24_asks.l0 k a1 0 a0_0 a0_1 a0_2 l0_3 a0_4 a0_5 a0_6 l0_7)=some r:=h;clear h;have H':=ak H;clear H
 go_enter Try.func65,Try.ntmps65
 go_wp2_with (first |((with_reducible refine gate_dst (N:=2) rfl ?_);refine box_event ?hg (N:=2) ?hd (cs:= #[.int .i64 a0_0,.int .i64 a0_1,.int .i64 a0_2,.slice A0_3 l0_3.length c0_3,.int .i64 a0_4,.int .i64 a0_5,.int .i64 a0_6,.slice A0_7 l0_7.length c0_7]) (t:=47) ?hr ?_;(case hd=>rfl);(case hg=>rfl);(case hr=>first |(go_simp;done) |(go_simp;rfl));intro gb179 hg w3 hbox hb;have n0_:=ak (below_step qe hb);have n1_:=ak (hbox);have n2_:=ak ((by rw [hg];exact (below_size qe):w.heap.size≤gb179));have n3_:=ak ((by rw [hg];exact (below_size qe):w.heap.size≤gb179));clear HB;have HB:=n0_;have BK179:=n1_;have GW179:=n2_;have GE179:=n3_;clear n0_ n1_ n2_ n3_;clear hb hbox hg))
 go_loopg [5] k (fun kq v5 w'=>∃ (x5_1:Int),v5= .int .i64 x5_1∧Aside0 (portageref24_asks.l0 kq a1 x5_1 a0_0 a0_1 a0_2 l0_3 a0_4 a0_5 a0_6 l0_7=some r)∧Aside0 (kq≤k)∧Aside0 (w'.heap[gb179]? =some (.cells #[.int .i64 a0_0,.int .i64 a0_1,.int .i64 a0_2,(.slice A0_3 l0_3.length c0_3),.int .i64 a0_4,.int .i64 a0_5,.int .i64 a0_6,(.slice A0_7 l0_7.length c0_7)] 47 (0,0)))∧Aside0 (Below w.heap.size w w'))
 case atStart=>exact ⟨(0),qa,H',⟨Nat.le_refl _⟩,⟨bk BK179⟩,⟨by repeat (first |(with_reducible first |exact HB.out |apply below_alloc |apply pw_below_drewN |apply below_drew1 |refine below_set ?_ GE179.out) |exact HB.out)⟩⟩
 case round =>
  clear H'
  try clear p2
  obtain ⟨x5_1,rfl,HA,HK1,BK179,HB⟩:=hrel;cases gk with
  |zero=>exact absurd HA.out (by simp [portageref24_asks.l0])
  |succ k1 =>
   have H:=HA.out;clear HA;simp only [portageref24_asks.l0] at H
   by_cases c4:x5_1<(l0_3.length:Int)
   ·rw [if_pos c4] at H;have c4b0:decide (x5_1<(l0_3.length:Int))=true:=decide_eq_true c4;clear c4
    by_cases c5:0≤x5_1
    ·rw [if_pos c5] at H;have c5b0:decide (0≤x5_1)=true:=decide_eq_true c5;clear c5
     by_cases c6:((rd_T82 l0_3 x5_1).f0)=0
     ·rw [if_pos c6] at H;have c6b0:(((rd_T82 l0_3 x5_1).f0)==0)=true:=beq_iff_eq.mpr c6;have c6b1:(((rd_T82 l0_3 x5_1).f0) != 0)=false:=bne_eq_false_iff_eq.mpr c6;clear c6
      by_cases c7:((rd_T82 l0_3 x5_1).f1)=a1
      ·rw [if_pos c7] at H;have c7b0:(((rd_T82 l0_3 x5_1).f1)==a1)=true:=beq_iff_eq.mpr c7;have c7b1:(((rd_T82 l0_3 x5_1).f1) != a1)=false:=bne_eq_false_iff_eq.mpr c7;clear c7;obtain rfl:=Option.some.inj H;have hcz8_0:wr.cell? ⟨gb179,0,none⟩=some (.int .i64 a0_0):=qj BK179 0;have hcz8_1:wr.cell? ⟨gb179,1,none⟩=some (.int .i64 a0_1):=qj BK179 1;have hcz8_2:wr.cell? ⟨gb179,2,none⟩=some (.int .i64 a0_2):=qj BK179 2;have hcz8_3:wr.cell? ⟨gb179,3,none⟩=some (.slice A0_3 l0_3.length c0_3):=qj BK179 3
       have hcz8_4:wr.cell? ⟨gb179,4,none⟩=some (.int .i64 a0_4):=qj BK179 4;have hcz8_5:wr.cell? ⟨gb179,5,none⟩=some (.int .i64 a0_5):=qj BK179 5;have hcz8_6:wr.cell? ⟨gb179,6,none⟩=some (.int .i64 a0_6):=qj BK179 6;have hcz8_7:wr.cell? ⟨gb179,7,none⟩=some (.slice A0_7 l0_7.length c0_7):=qj BK179 7;have hfz8_0:=ql BK179 0;have hfz8_1:=ql BK179 1;have hfz8_2:=ql BK179 2;have hfz8_3:=ql BK179 3;have hfz8_4:=ql BK179 4;have hfz8_5:=ql BK179 5;have hfz8_6:=ql BK179 6;have hfz8_7:=ql BK179 7;have p180:0≤(x5_1:Int):=dt
       have q180:x5_1<(l0_3.length:Int):=dt;obtain ⟨ad180,e180,hx180_0,hx180_1⟩:=at_T82 HR0_3.out x5_1 p180 q180;cases e180;replace hx180_0:=(qd HB hx180_0 :)
       replace hx180_1:=(qd HB hx180_1 :)
       replace p180:=eq_true p180;replace q180:=eq_true q180;have p181:0≤(x5_1:Int):=dt;have q181:x5_1<(l0_3.length:Int):=dt;obtain ⟨ad181,e181,hx181_0,hx181_1⟩:=at_T82 HR0_3.out x5_1 p181 q181;obtain rfl:ad180=ad181:=(by injection e181)
       replace hx181_0:=(qd HB hx181_0 :)
       replace hx181_1:=(qd HB hx181_1 :)
       replace p181:=eq_true p181;replace q181:=eq_true q181
       go_wp2
       go_ret
       exact ⟨by first |rfl |(simp [errW_none,errW_some]<;>rfl) |(simp [*,errW_none,errW_some]<;>rfl),by repeat (first |(with_reducible first |exact HB.out |apply below_alloc |apply pw_below_drewN |apply below_drew1 |refine below_set ?_ GE179.out) |exact HB.out)⟩
      ·rw [if_neg c7] at H;have c7b0:(((rd_T82 l0_3 x5_1).f1)==a1)=false:=beq_eq_false_iff_ne.mpr c7;have c7b1:(((rd_T82 l0_3 x5_1).f1) != a1)=true:=bne_iff_ne.mpr c7;have H':=ak H;clear H;have hcz9_0:wr.cell? ⟨gb179,0,none⟩=some (.int .i64 a0_0):=qj BK179 0;have hcz9_1:wr.cell? ⟨gb179,1,none⟩=some (.int .i64 a0_1):=qj BK179 1;have hcz9_2:wr.cell? ⟨gb179,2,none⟩=some (.int .i64 a0_2):=qj BK179 2;have hcz9_3:wr.cell? ⟨gb179,3,none⟩=some (.slice A0_3 l0_3.length c0_3):=qj BK179 3
       have hcz9_4:wr.cell? ⟨gb179,4,none⟩=some (.int .i64 a0_4):=qj BK179 4;have hcz9_5:wr.cell? ⟨gb179,5,none⟩=some (.int .i64 a0_5):=qj BK179 5;have hcz9_6:wr.cell? ⟨gb179,6,none⟩=some (.int .i64 a0_6):=qj BK179 6;have hcz9_7:wr.cell? ⟨gb179,7,none⟩=some (.slice A0_7 l0_7.length c0_7):=qj BK179 7;have hfz9_0:=ql BK179 0;have hfz9_1:=ql BK179 1;have hfz9_2:=ql BK179 2;have hfz9_3:=ql BK179 3;have hfz9_4:=ql BK179 4;have hfz9_5:=ql BK179 5;have hfz9_6:=ql BK179 6;have hfz9_7:=ql BK179 7;have p180:0≤(x5_1:Int):=dt
       have q180:x5_1<(l0_3.length:Int):=dt;obtain ⟨ad180,e180,hx180_0,hx180_1⟩:=at_T82 HR0_3.out x5_1 p180 q180;cases e180;replace hx180_0:=(qd HB hx180_0 :)
       replace hx180_1:=(qd HB hx180_1 :)
       replace p180:=eq_true p180;replace q180:=eq_true q180;have p181:0≤(x5_1:Int):=dt;have q181:x5_1<(l0_3.length:Int):=dt;obtain ⟨ad181,e181,hx181_0,hx181_1⟩:=at_T82 HR0_3.out x5_1 p181 q181;obtain rfl:ad180=ad181:=(by injection e181)
       replace hx181_0:=(qd HB hx181_0 :)
       replace hx181_1:=(qd HB hx181_1 :)
       replace p181:=eq_true p181;replace q181:=eq_true q181
       go_wp2
       go_roundg k1
       case measure=>have:=HK1.out;omega
       case rel=>exact ⟨(wrap64 (x5_1+1)),qa,H',⟨by have:=HK1.out;omega⟩,⟨bk BK179⟩,⟨by repeat (first |(with_reducible first |exact HB.out |apply below_alloc |apply pw_below_drewN |apply below_drew1 |refine below_set ?_ GE179.out) |exact HB.out)⟩⟩
     ·rw [if_neg c6] at H;have c6b0:(((rd_T82 l0_3 x5_1).f0)==0)=false:=beq_eq_false_iff_ne.mpr c6;have c6b1:(((rd_T82 l0_3 x5_1).f0) != 0)=true:=bne_iff_ne.mpr c6;have H':=ak H;clear H;have hcz10_0:wr.cell? ⟨gb179,0,none⟩=some (.int .i64 a0_0):=qj BK179 0;have hcz10_1:wr.cell? ⟨gb179,1,none⟩=some (.int .i64 a0_1):=qj BK179 1;have hcz10_2:wr.cell? ⟨gb179,2,none⟩=some (.int .i64 a0_2):=qj BK179 2;have hcz10_3:wr.cell? ⟨gb179,3,none⟩=some (.slice A0_3 l0_3.length c0_3):=qj BK179 3
      have hcz10_4:wr.cell? ⟨gb179,4,none⟩=some (.int .i64 a0_4):=qj BK179 4;have hcz10_5:wr.cell? ⟨gb179,5,none⟩=some (.int .i64 a0_5):=qj BK179 5;have hcz10_6:wr.cell? ⟨gb179,6,none⟩=some (.int .i64 a0_6):=qj BK179 6;have hcz10_7:wr.cell? ⟨gb179,7,none⟩=some (.slice A0_7 l0_7.length c0_7):=qj BK179 7;have hfz10_0:=ql BK179 0;have hfz10_1:=ql BK179 1;have hfz10_2:=ql BK179 2;have hfz10_3:=ql BK179 3;have hfz10_4:=ql BK179 4;have hfz10_5:=ql BK179 5;have hfz10_6:=ql BK179 6;have hfz10_7:=ql BK179 7;have p180:0≤(x5_1:Int):=dt
      have q180:x5_1<(l0_3.length:Int):=dt;obtain ⟨ad180,e180,hx180_0,hx180_1⟩:=at_T82 HR0_3.out x5_1 p180 q180;cases e180;replace hx180_0:=(qd HB hx180_0 :)
      replace hx180_1:=(qd HB hx180_1 :)
      replace p180:=eq_true p180;replace q180:=eq_true q180
      go_wp2
      go_roundg k1
      case measure=>have:=HK1.out;omega
      case rel=>exact ⟨(wrap64 (x5_1+1)),qa,H',⟨by have:=HK1.out;omega⟩,⟨bk BK179⟩,⟨by repeat (first |(with_reducible first |exact HB.out |apply below_alloc |apply pw_below_drewN |apply below_drew1 |refine below_set ?_ GE179.out) |exact HB.out)⟩⟩
    ·rw [if_neg c5] at H;exact absurd H (by simp)
   ·rw [if_neg c4] at H;have c4b0:decide (x5_1<(l0_3.length:Int))=false:=decide_eq_false c4;clear c4;have H':=ak H;clear H;have hcz11_0:wr.cell? ⟨gb179,0,none⟩=some (.int .i64 a0_0):=qj BK179 0;have hcz11_1:wr.cell? ⟨gb179,1,none⟩=some (.int .i64 a0_1):=qj BK179 1;have hcz11_2:wr.cell? ⟨gb179,2,none⟩=some (.int .i64 a0_2):=qj BK179 2;have hcz11_3:wr.cell? ⟨gb179,3,none⟩=some (.slice A0_3 l0_3.length c0_3):=qj BK179 3;have hcz11_4:wr.cell? ⟨gb179,4,none⟩=some (.int .i64 a0_4):=qj BK179 4
    have hcz11_5:wr.cell? ⟨gb179,5,none⟩=some (.int .i64 a0_5):=qj BK179 5;have hcz11_6:wr.cell? ⟨gb179,6,none⟩=some (.int .i64 a0_6):=qj BK179 6;have hcz11_7:wr.cell? ⟨gb179,7,none⟩=some (.slice A0_7 l0_7.length c0_7):=qj BK179 7;have hfz11_0:=ql BK179 0;have hfz11_1:=ql BK179 1;have hfz11_2:=ql BK179 2;have hfz11_3:=ql BK179 3;have hfz11_4:=ql BK179 4;have hfz11_5:=ql BK179 5;have hfz11_6:=ql BK179 6;have hfz11_7:=ql BK179 7
    go_wp2
    go_loopg [6] k1 (fun kq v6 w'=>∃ (x6_2:Int),v6= .int .i64 x6_2∧Aside0 (portageref24_asks.l1 kq a1 x6_2 a0_0 a0_1 a0_2 l0_3 a0_4 a0_5 a0_6 l0_7=some r)∧Aside0 (kq≤k1)∧Aside0 (w'.heap[gb179]? =some (.cells #[.int .i64 a0_0,.int .i64 a0_1,.int .i64 a0_2,(.slice A0_3 l0_3.length c0_3),.int .i64 a0_4,.int .i64 a0_5,.int .i64 a0_6,(.slice A0_7 l0_7.length c0_7)] 47 (0,0)))∧Aside0 (Below w.heap.size w w'))
    case atStart=>exact ⟨(0),qa,H',⟨Nat.le_refl _⟩,⟨bk BK179⟩,⟨by repeat (first |(with_reducible first |exact HB.out |apply below_alloc |apply pw_below_drewN |apply below_drew1 |refine below_set ?_ GE179.out) |exact HB.out)⟩⟩
    case round =>
     clear H'
     try clear p1
     try clear q1
     try clear hx1
     try clear p2
     try clear c4
     try clear c4b0
     try clear c5
     try clear c5b0
     try clear c6
     try clear c6b0
     try clear c6b1
     try clear p6
     try clear c7
     try clear c7b0
     try clear c7b1
     try clear hcz10_0
     try clear hcz10_1
     try clear hcz10_2
     try clear hcz10_3
     try clear hcz10_4
     try clear hcz10_5
     try clear hcz10_6
     try clear hcz10_7
     try clear hcz11_0
     try clear hcz11_1
     try clear hcz11_2
     try clear hcz11_3
     try clear hcz11_4
     try clear hcz11_5
     try clear hcz11_6
     try clear hcz11_7
     try clear hcz8_0
     try clear hcz8_1
     try clear hcz8_2
     try clear hcz8_3
     try clear hcz8_4
     try clear hcz8_5
     try clear hcz8_6
     try clear hcz8_7
     try clear hcz9_0
     try clear hcz9_1
     try clear hcz9_2
     try clear hcz9_3
     try clear hcz9_4
     try clear hcz9_5
     try clear hcz9_6
     try clear hcz9_7
     try clear hfz10_0
     try clear hfz10_1
     try clear hfz10_2
     try clear hfz10_3
     try clear hfz10_4
     try clear hfz10_5
     try clear hfz10_6
     try clear hfz10_7
     try clear hfz11_0
     try clear hfz11_1
     try clear hfz11_2
     try clear hfz11_3
     try clear hfz11_4
     try clear hfz11_5
     try clear hfz11_6
     try clear hfz11_7
     try clear hfz8_0
     try clear hfz8_1
     try clear hfz8_2
     try clear hfz8_3
     try clear hfz8_4
     try clear hfz8_5
     try clear hfz8_6
     try clear hfz8_7
     try clear hfz9_0
     try clear hfz9_1
     try clear hfz9_2
     try clear hfz9_3
     try clear hfz9_4
     try clear hfz9_5
     try clear hfz9_6
     try clear hfz9_7
     try clear hx180_0
     try clear hx180_1
     try clear hx181_0
     try clear hx181_1
     try clear p180
     try clear p181
     try clear p2
     try clear q180
     try clear q181
     obtain ⟨x6_2,rfl,HA,HK2,BK179,HB⟩:=hrel;cases gk with
     |zero=>exact absurd HA.out (by simp [portageref24_asks.l1])
     |succ k2 =>
      have H:=HA.out;clear HA;simp only [portageref24_asks.l1] at H
      by_cases c12:x6_2<(l0_7.length:Int)
      ·rw [if_pos c12] at H;have c12b0:decide (x6_2<(l0_7.length:Int))=true:=decide_eq_true c12;clear c12;have H':=ak H;clear H;have hcz13_0:wr.cell? ⟨gb179,0,none⟩=some (.int .i64 a0_0):=qj BK179 0;have hcz13_1:wr.cell? ⟨gb179,1,none⟩=some (.int .i64 a0_1):=qj BK179 1;have hcz13_2:wr.cell? ⟨gb179,2,none⟩=some (.int .i64 a0_2):=qj BK179 2;have hcz13_3:wr.cell? ⟨gb179,3,none⟩=some (.slice A0_3 l0_3.length c0_3):=qj BK179 3;have hcz13_4:wr.cell? ⟨gb179,4,none⟩=some (.int .i64 a0_4):=qj BK179 4
       have hcz13_5:wr.cell? ⟨gb179,5,none⟩=some (.int .i64 a0_5):=qj BK179 5;have hcz13_6:wr.cell? ⟨gb179,6,none⟩=some (.int .i64 a0_6):=qj BK179 6;have hcz13_7:wr.cell? ⟨gb179,7,none⟩=some (.slice A0_7 l0_7.length c0_7):=qj BK179 7;have hfz13_0:=ql BK179 0;have hfz13_1:=ql BK179 1;have hfz13_2:=ql BK179 2;have hfz13_3:=ql BK179 3;have hfz13_4:=ql BK179 4;have hfz13_5:=ql BK179 5;have hfz13_6:=ql BK179 6;have hfz13_7:=ql BK179 7
       go_wp2
       go_loopg [7] k2 (fun kq v7 w'=>∃ (x7_3:Int),v7= .int .i64 x7_3∧Aside0 (portageref24_asks.l2 kq a1 x6_2 x7_3 a0_0 a0_1 a0_2 l0_3 a0_4 a0_5 a0_6 l0_7=some r)∧Aside0 (kq≤k2)∧Aside0 (w'.heap[gb179]? =some (.cells #[.int .i64 a0_0,.int .i64 a0_1,.int .i64 a0_2,(.slice A0_3 l0_3.length c0_3),.int .i64 a0_4,.int .i64 a0_5,.int .i64 a0_6,(.slice A0_7 l0_7.length c0_7)] 47 (0,0)))∧Aside0 (Below w.heap.size w w'))
       case atStart=>exact ⟨(0),qa,H',⟨Nat.le_refl _⟩,⟨bk BK179⟩,⟨by repeat (first |(with_reducible first |exact HB.out |apply below_alloc |apply pw_below_drewN |apply below_drew1 |refine below_set ?_ GE179.out) |exact HB.out)⟩⟩
       case round =>
        clear H'
        try clear c1
        try clear p1
        try clear q1
        try clear hx1
        try clear p2
        try clear c4
        try clear c4b0
        try clear c5
        try clear c5b0
        try clear c6
        try clear c6b0
        try clear c6b1
        try clear p6
        try clear c7
        try clear c7b0
        try clear c7b1
        try clear c12
        try clear c12b0
        try clear hcz10_0
        try clear hcz10_1
        try clear hcz10_2
        try clear hcz10_3
        try clear hcz10_4
        try clear hcz10_5
        try clear hcz10_6
        try clear hcz10_7
        try clear hcz11_0
        try clear hcz11_1
        try clear hcz11_2
        try clear hcz11_3
        try clear hcz11_4
        try clear hcz11_5
        try clear hcz11_6
        try clear hcz11_7
        try clear hcz13_0
        try clear hcz13_1
        try clear hcz13_2
        try clear hcz13_3
        try clear hcz13_4
        try clear hcz13_5
        try clear hcz13_6
        try clear hcz13_7
        try clear hcz8_0
        try clear hcz8_1
        try clear hcz8_2
        try clear hcz8_3
        try clear hcz8_4
        try clear hcz8_5
        try clear hcz8_6
        try clear hcz8_7
        try clear hcz9_0
        try clear hcz9_1
        try clear hcz9_2
        try clear hcz9_3
        try clear hcz9_4
        try clear hcz9_5
        try clear hcz9_6
        try clear hcz9_7
        try clear hfz10_0
        try clear hfz10_1
        try clear hfz10_2
        try clear hfz10_3
        try clear hfz10_4
        try clear hfz10_5
        try clear hfz10_6
        try clear hfz10_7
        try clear hfz11_0
        try clear hfz11_1
        try clear hfz11_2
        try clear hfz11_3
        try clear hfz11_4
        try clear hfz11_5
        try clear hfz11_6
        try clear hfz11_7
        try clear hfz13_0
        try clear hfz13_1
        try clear hfz13_2
        try clear hfz13_3
        try clear hfz13_4
        try clear hfz13_5
        try clear hfz13_6
        try clear hfz13_7
        try clear hfz8_0
        try clear hfz8_1
        try clear hfz8_2
        try clear hfz8_3
        try clear hfz8_4
        try clear hfz8_5
        try clear hfz8_6
        try clear hfz8_7
        try clear hfz9_0
        try clear hfz9_1
        try clear hfz9_2
        try clear hfz9_3
        try clear hfz9_4
        try clear hfz9_5
        try clear hfz9_6
        try clear hfz9_7
        try clear hx180_0
        try clear hx180_1
        try clear hx181_0
        try clear hx181_1
        try clear p1
        try clear p180
        try clear p181
        try clear p2
        try clear p6
        try clear q1
        try clear q180
        try clear q181
        obtain ⟨x7_3,rfl,HA,HK3,BK179,HB⟩:=hrel;cases gk with
        |zero=>exact absurd HA.out (by simp [portageref24_asks.l2])
        |succ k3 =>
         have H:=HA.out;clear HA;simp only [portageref24_asks.l2] at H
         by_cases c14:0≤x6_2
         ·rw [if_pos c14] at H;have c14b0:decide (0≤x6_2)=true:=decide_eq_true c14;clear c14
          by_cases c15:x6_2<(l0_7.length:Int)
          ·rw [if_pos c15] at H;have c15b0:decide (x6_2<(l0_7.length:Int))=true:=decide_eq_true c15;clear c15
           by_cases c16:x7_3<(((rd_T78 l0_7 x6_2).f2).length:Int)
           ·rw [if_pos c16] at H;have c16b0:decide (x7_3<(((rd_T78 l0_7 x6_2).f2).length:Int))=true:=decide_eq_true c16;clear c16
            by_cases c17:0≤x7_3
            ·rw [if_pos c17] at H;have c17b0:decide (0≤x7_3)=true:=decide_eq_true c17;clear c17
             by_cases c18:((rd_T82 ((rd_T78 l0_7 x6_2).f2) x7_3).f0)=0
             ·rw [if_pos c18] at H;have c18b0:(((rd_T82 ((rd_T78 l0_7 x6_2).f2) x7_3).f0)==0)=true:=beq_iff_eq.mpr c18;have c18b1:(((rd_T82 ((rd_T78 l0_7 x6_2).f2) x7_3).f0) != 0)=false:=bne_eq_false_iff_eq.mpr c18;clear c18
              by_cases c19:((rd_T82 ((rd_T78 l0_7 x6_2).f2) x7_3).f1)=a1
              ·rw [if_pos c19] at H;have c19b0:(((rd_T82 ((rd_T78 l0_7 x6_2).f2) x7_3).f1)==a1)=true:=beq_iff_eq.mpr c19;have c19b1:(((rd_T82 ((rd_T78 l0_7 x6_2).f2) x7_3).f1) != a1)=false:=bne_eq_false_iff_eq.mpr c19;clear c19;obtain rfl:=Option.some.inj H;have hcz20_0:wr.cell? ⟨gb179,0,none⟩=some (.int .i64 a0_0):=qj BK179 0;have hcz20_1:wr.cell? ⟨gb179,1,none⟩=some (.int .i64 a0_1):=qj BK179 1;have hcz20_2:wr.cell? ⟨gb179,2,none⟩=some (.int .i64 a0_2):=qj BK179 2
               have hcz20_3:wr.cell? ⟨gb179,3,none⟩=some (.slice A0_3 l0_3.length c0_3):=qj BK179 3;have hcz20_4:wr.cell? ⟨gb179,4,none⟩=some (.int .i64 a0_4):=qj BK179 4;have hcz20_5:wr.cell? ⟨gb179,5,none⟩=some (.int .i64 a0_5):=qj BK179 5;have hcz20_6:wr.cell? ⟨gb179,6,none⟩=some (.int .i64 a0_6):=qj BK179 6;have hcz20_7:wr.cell? ⟨gb179,7,none⟩=some (.slice A0_7 l0_7.length c0_7):=qj BK179 7;have hfz20_0:=ql BK179 0;have hfz20_1:=ql BK179 1;have hfz20_2:=ql BK179 2;have hfz20_3:=ql BK179 3;have hfz20_4:=ql BK179 4;have hfz20_5:=ql BK179 5
               have hfz20_6:=ql BK179 6;have hfz20_7:=ql BK179 7;have p182:0≤(x6_2:Int):=dt;have q182:x6_2<(l0_7.length:Int):=dt;obtain ⟨ad182,A182_2,c182_2,e182,hx182_0,hx182_1,hx182_2,hl182_2,hi182_2⟩:=at_T78 HR0_7.out x6_2 p182 q182;cases e182;replace hx182_0:=(qd HB hx182_0 :)
               replace hx182_1:=(qd HB hx182_1 :)
               replace hx182_2:=(qd HB hx182_2 :)
               have HR182_2:=ak hi182_2;have HC182_2:=ak hl182_2;clear hi182_2 hl182_2;replace p182:=eq_true p182;replace q182:=eq_true q182;have p183:0≤(x6_2:Int):=dt;have q183:x6_2<(l0_7.length:Int):=dt;obtain ⟨ad183,A183_2,c183_2,e183,hx183_0,hx183_1,hx183_2,hl183_2,hi183_2⟩:=at_T78 HR0_7.out x6_2 p183 q183;obtain rfl:ad182=ad183:=(by injection e183)
               replace hx183_0:=(qd HB hx183_0 :)
               replace hx183_1:=(qd HB hx183_1 :)
               replace hx183_2:=(qd HB hx183_2 :)
               have HR183_2:=ak hi183_2;have HC183_2:=ak hl183_2;clear hi183_2 hl183_2;replace p183:=eq_true p183;replace q183:=eq_true q183;have ea_:=Option.some.inj (hx182_2.symm.trans hx183_2);injection ea_ with ea_ en_ ec_;subst ea_;subst ec_;clear en_;have p184:0≤(x7_3:Int):=dt;have q184:x7_3<(((rd_T78 l0_7 x6_2).f2).length:Int):=dt;obtain ⟨ad184,e184,hx184_0,hx184_1⟩:=at_T82 HR183_2.out x7_3 p184 q184;cases e184;replace hx184_0:=(qd HB hx184_0 :)
               replace hx184_1:=(qd HB hx184_1 :)
               replace p184:=eq_true p184;replace q184:=eq_true q184
               go_wp2_with (first |((with_reducible refine gate_dst (N:=8) rfl ?_);refine box_event ?hg (N:=8) ?hd (cs:= #[.int .i64 0,.int .i64 0]) (t:=82) ?hr ?_;(case hd=>rfl);(case hg=>rfl);(case hr=>first |(go_simp;done) |(go_simp;rfl));intro gb185 hg w21 hbox hb;have n0_:=ak (blk_below (g:=gb179) (o:= .cells #[.int .i64 a0_0,.int .i64 a0_1,.int .i64 a0_2,.slice A0_3 l0_3.length c0_3,.int .i64 a0_4,.int .i64 a0_5,.int .i64 a0_6,.slice (some ad182) l0_7.length c0_7] 47 (0,0)) (bk BK179) hb);have n1_:=ak (below_step (qm GE179) hb);have n2_:=ak (hbox);have n3_:=ak ((by rw [hg];exact (below_size (qm GE179)):w.heap.size≤gb185));have n4_:=ak ((by rw [hg];exact (below_size (qm GE179)):w.heap.size≤gb185));have n5_:=ak ((by rw [hg];exact Nat.ne_of_lt (blk_lt (g:=gb179) (o:= .cells #[.int .i64 a0_0,.int .i64 a0_1,.int .i64 a0_2,.slice A0_3 l0_3.length c0_3,.int .i64 a0_4,.int .i64 a0_5,.int .i64 a0_6,.slice (some ad182) l0_7.length c0_7] 47 (0,0)) (bk BK179)):gb179≠gb185));have n6_:=ak ((by rw [hg];exact Nat.ne_of_gt (blk_lt (g:=gb179) (o:= .cells #[.int .i64 a0_0,.int .i64 a0_1,.int .i64 a0_2,.slice A0_3 l0_3.length c0_3,.int .i64 a0_4,.int .i64 a0_5,.int .i64 a0_6,.slice (some ad182) l0_7.length c0_7] 47 (0,0)) (bk BK179)):gb185≠gb179));clear BK179;clear HB;have BK179:=n0_;have HB:=n1_;have BK185:=n2_;have GW185:=n3_;have GE185:=n4_;have NB179_185:=n5_;have NB185_179:=n6_;clear n0_ n1_ n2_ n3_ n4_ n5_ n6_;clear hb hbox hg;have hnb22:=NB185_179.out;have hnc22:=NB179_185.out;have hcz23_0:w21.cell? ⟨gb185,0,none⟩=some (.int .i64 0):=qj BK185 0;have hcz23_1:w21.cell? ⟨gb185,1,none⟩=some (.int .i64 0):=qj BK185 1;have hfz23_0:=ql BK185 0;have hfz23_1:=ql BK185 1))
               go_ret
               exact ⟨by first |rfl |(simp [errW_none,errW_some]<;>rfl) |(simp [*,errW_none,errW_some]<;>rfl),by repeat (first |(with_reducible first |exact HB.out |apply below_alloc |apply pw_below_drewN |apply below_drew1 |refine below_set ?_ GE179.out |refine below_set ?_ GE185.out) |exact HB.out)⟩
              ·rw [if_neg c19] at H;have c19b0:(((rd_T82 ((rd_T78 l0_7 x6_2).f2) x7_3).f1)==a1)=false:=beq_eq_false_iff_ne.mpr c19;have c19b1:(((rd_T82 ((rd_T78 l0_7 x6_2).f2) x7_3).f1) != a1)=true:=bne_iff_ne.mpr c19;have H':=ak H;clear H;have hcz24_0:wr.cell? ⟨gb179,0,none⟩=some (.int .i64 a0_0):=qj BK179 0;have hcz24_1:wr.cell? ⟨gb179,1,none⟩=some (.int .i64 a0_1):=qj BK179 1;have hcz24_2:wr.cell? ⟨gb179,2,none⟩=some (.int .i64 a0_2):=qj BK179 2;have hcz24_3:wr.cell? ⟨gb179,3,none⟩=some (.slice A0_3 l0_3.length c0_3):=qj BK179 3
               have hcz24_4:wr.cell? ⟨gb179,4,none⟩=some (.int .i64 a0_4):=qj BK179 4;have hcz24_5:wr.cell? ⟨gb179,5,none⟩=some (.int .i64 a0_5):=qj BK179 5;have hcz24_6:wr.cell? ⟨gb179,6,none⟩=some (.int .i64 a0_6):=qj BK179 6;have hcz24_7:wr.cell? ⟨gb179,7,none⟩=some (.slice A0_7 l0_7.length c0_7):=qj BK179 7;have hfz24_0:=ql BK179 0;have hfz24_1:=ql BK179 1;have hfz24_2:=ql BK179 2;have hfz24_3:=ql BK179 3;have hfz24_4:=ql BK179 4;have hfz24_5:=ql BK179 5;have hfz24_6:=ql BK179 6;have hfz24_7:=ql BK179 7;have p182:0≤(x6_2:Int):=dt
               have q182:x6_2<(l0_7.length:Int):=dt;obtain ⟨ad182,A182_2,c182_2,e182,hx182_0,hx182_1,hx182_2,hl182_2,hi182_2⟩:=at_T78 HR0_7.out x6_2 p182 q182;cases e182;replace hx182_0:=(qd HB hx182_0 :)
               replace hx182_1:=(qd HB hx182_1 :)
               replace hx182_2:=(qd HB hx182_2 :)
               have HR182_2:=ak hi182_2;have HC182_2:=ak hl182_2;clear hi182_2 hl182_2;replace p182:=eq_true p182;replace q182:=eq_true q182;have p183:0≤(x6_2:Int):=dt;have q183:x6_2<(l0_7.length:Int):=dt;obtain ⟨ad183,A183_2,c183_2,e183,hx183_0,hx183_1,hx183_2,hl183_2,hi183_2⟩:=at_T78 HR0_7.out x6_2 p183 q183;obtain rfl:ad182=ad183:=(by injection e183)
               replace hx183_0:=(qd HB hx183_0 :)
               replace hx183_1:=(qd HB hx183_1 :)
               replace hx183_2:=(qd HB hx183_2 :)
               have HR183_2:=ak hi183_2;have HC183_2:=ak hl183_2;clear hi183_2 hl183_2;replace p183:=eq_true p183;replace q183:=eq_true q183;have ea_:=Option.some.inj (hx182_2.symm.trans hx183_2);injection ea_ with ea_ en_ ec_;subst ea_;subst ec_;clear en_;have p184:0≤(x7_3:Int):=dt;have q184:x7_3<(((rd_T78 l0_7 x6_2).f2).length:Int):=dt;obtain ⟨ad184,e184,hx184_0,hx184_1⟩:=at_T82 HR183_2.out x7_3 p184 q184;cases e184;replace hx184_0:=(qd HB hx184_0 :)
               replace hx184_1:=(qd HB hx184_1 :)
               replace p184:=eq_true p184;replace q184:=eq_true q184
               go_wp2_with (first |((with_reducible refine gate_dst (N:=8) rfl ?_);refine box_event ?hg (N:=8) ?hd (cs:= #[.int .i64 0,.int .i64 0]) (t:=82) ?hr ?_;(case hd=>rfl);(case hg=>rfl);(case hr=>first |(go_simp;done) |(go_simp;rfl));intro gb185 hg w25 hbox hb;have n0_:=ak (blk_below (g:=gb179) (o:= .cells #[.int .i64 a0_0,.int .i64 a0_1,.int .i64 a0_2,.slice A0_3 l0_3.length c0_3,.int .i64 a0_4,.int .i64 a0_5,.int .i64 a0_6,.slice (some ad182) l0_7.length c0_7] 47 (0,0)) (bk BK179) hb);have n1_:=ak (below_step (qm GE179) hb);have n2_:=ak (hbox);have n3_:=ak ((by rw [hg];exact (below_size (qm GE179)):w.heap.size≤gb185));have n4_:=ak ((by rw [hg];exact (below_size (qm GE179)):w.heap.size≤gb185));have n5_:=ak ((by rw [hg];exact Nat.ne_of_lt (blk_lt (g:=gb179) (o:= .cells #[.int .i64 a0_0,.int .i64 a0_1,.int .i64 a0_2,.slice A0_3 l0_3.length c0_3,.int .i64 a0_4,.int .i64 a0_5,.int .i64 a0_6,.slice (some ad182) l0_7.length c0_7] 47 (0,0)) (bk BK179)):gb179≠gb185));have n6_:=ak ((by rw [hg];exact Nat.ne_of_gt (blk_lt (g:=gb179) (o:= .cells #[.int .i64 a0_0,.int .i64 a0_1,.int .i64 a0_2,.slice A0_3 l0_3.length c0_3,.int .i64 a0_4,.int .i64 a0_5,.int .i64 a0_6,.slice (some ad182) l0_7.length c0_7] 47 (0,0)) (bk BK179)):gb185≠gb179));clear BK179;clear HB;have BK179:=n0_;have HB:=n1_;have BK185:=n2_;have GW185:=n3_;have GE185:=n4_;have NB179_185:=n5_;have NB185_179:=n6_;clear n0_ n1_ n2_ n3_ n4_ n5_ n6_;clear hb hbox hg;have hnb26:=NB185_179.out;have hnc26:=NB179_185.out;have hcz27_0:w25.cell? ⟨gb185,0,none⟩=some (.int .i64 0):=qj BK185 0;have hcz27_1:w25.cell? ⟨gb185,1,none⟩=some (.int .i64 0):=qj BK185 1;have hfz27_0:=ql BK185 0;have hfz27_1:=ql BK185 1))
               go_roundg k3
               case measure=>have:=HK1.out;have:=HK2.out;have:=HK3.out;omega
               case rel=>exact ⟨(wrap64 (x7_3+1)),qa,H',⟨by have:=HK1.out;have:=HK2.out;have:=HK3.out;omega⟩,⟨by (with_reducible repeat (first |refine blk_drewN ?_ _ |refine blk_drew ?_ |refine blk_alloc ?_ _));refine blk_far ?_ NB179_185.out _;(with_reducible repeat (first |refine blk_drewN ?_ _ |refine blk_drew ?_ |refine blk_alloc ?_ _));refine blk_far ?_ NB179_185.out _;(with_reducible repeat (first |refine blk_drewN ?_ _ |refine blk_drew ?_ |refine blk_alloc ?_ _));exact BK179.out⟩,⟨by repeat (first |(with_reducible first |exact HB.out |apply below_alloc |apply pw_below_drewN |apply below_drew1 |refine below_set ?_ GE179.out |refine below_set ?_ GE185.out) |exact HB.out)⟩⟩
             ·rw [if_neg c18] at H;have c18b0:(((rd_T82 ((rd_T78 l0_7 x6_2).f2) x7_3).f0)==0)=false:=beq_eq_false_iff_ne.mpr c18;have c18b1:(((rd_T82 ((rd_T78 l0_7 x6_2).f2) x7_3).f0) != 0)=true:=bne_iff_ne.mpr c18;have H':=ak H;clear H;have hcz28_0:wr.cell? ⟨gb179,0,none⟩=some (.int .i64 a0_0):=qj BK179 0;have hcz28_1:wr.cell? ⟨gb179,1,none⟩=some (.int .i64 a0_1):=qj BK179 1;have hcz28_2:wr.cell? ⟨gb179,2,none⟩=some (.int .i64 a0_2):=qj BK179 2;have hcz28_3:wr.cell? ⟨gb179,3,none⟩=some (.slice A0_3 l0_3.length c0_3):=qj BK179 3
              have hcz28_4:wr.cell? ⟨gb179,4,none⟩=some (.int .i64 a0_4):=qj BK179 4;have hcz28_5:wr.cell? ⟨gb179,5,none⟩=some (.int .i64 a0_5):=qj BK179 5;have hcz28_6:wr.cell? ⟨gb179,6,none⟩=some (.int .i64 a0_6):=qj BK179 6;have hcz28_7:wr.cell? ⟨gb179,7,none⟩=some (.slice A0_7 l0_7.length c0_7):=qj BK179 7;have hfz28_0:=ql BK179 0;have hfz28_1:=ql BK179 1;have hfz28_2:=ql BK179 2;have hfz28_3:=ql BK179 3;have hfz28_4:=ql BK179 4;have hfz28_5:=ql BK179 5;have hfz28_6:=ql BK179 6;have hfz28_7:=ql BK179 7;have p182:0≤(x6_2:Int):=dt
              have q182:x6_2<(l0_7.length:Int):=dt;obtain ⟨ad182,A182_2,c182_2,e182,hx182_0,hx182_1,hx182_2,hl182_2,hi182_2⟩:=at_T78 HR0_7.out x6_2 p182 q182;cases e182;replace hx182_0:=(qd HB hx182_0 :)
              replace hx182_1:=(qd HB hx182_1 :)
              replace hx182_2:=(qd HB hx182_2 :)
              have HR182_2:=ak hi182_2;have HC182_2:=ak hl182_2;clear hi182_2 hl182_2;replace p182:=eq_true p182;replace q182:=eq_true q182;have p183:0≤(x6_2:Int):=dt;have q183:x6_2<(l0_7.length:Int):=dt;obtain ⟨ad183,A183_2,c183_2,e183,hx183_0,hx183_1,hx183_2,hl183_2,hi183_2⟩:=at_T78 HR0_7.out x6_2 p183 q183;obtain rfl:ad182=ad183:=(by injection e183)
              replace hx183_0:=(qd HB hx183_0 :)
              replace hx183_1:=(qd HB hx183_1 :)
              replace hx183_2:=(qd HB hx183_2 :)
              have HR183_2:=ak hi183_2;have HC183_2:=ak hl183_2;clear hi183_2 hl183_2;replace p183:=eq_true p183;replace q183:=eq_true q183;have ea_:=Option.some.inj (hx182_2.symm.trans hx183_2);injection ea_ with ea_ en_ ec_;subst ea_;subst ec_;clear en_;have p184:0≤(x7_3:Int):=dt;have q184:x7_3<(((rd_T78 l0_7 x6_2).f2).length:Int):=dt;obtain ⟨ad184,e184,hx184_0,hx184_1⟩:=at_T82 HR183_2.out x7_3 p184 q184;cases e184;replace hx184_0:=(qd HB hx184_0 :)
              replace hx184_1:=(qd HB hx184_1 :)
              replace p184:=eq_true p184;replace q184:=eq_true q184
              go_wp2_with (first |((with_reducible refine gate_dst (N:=8) rfl ?_);refine box_event ?hg (N:=8) ?hd (cs:= #[.int .i64 0,.int .i64 0]) (t:=82) ?hr ?_;(case hd=>rfl);(case hg=>rfl);(case hr=>first |(go_simp;done) |(go_simp;rfl));intro gb185 hg w29 hbox hb;have n0_:=ak (blk_below (g:=gb179) (o:= .cells #[.int .i64 a0_0,.int .i64 a0_1,.int .i64 a0_2,.slice A0_3 l0_3.length c0_3,.int .i64 a0_4,.int .i64 a0_5,.int .i64 a0_6,.slice (some ad182) l0_7.length c0_7] 47 (0,0)) (bk BK179) hb);have n1_:=ak (below_step (qm GE179) hb);have n2_:=ak (hbox);have n3_:=ak ((by rw [hg];exact (below_size (qm GE179)):w.heap.size≤gb185));have n4_:=ak ((by rw [hg];exact (below_size (qm GE179)):w.heap.size≤gb185));have n5_:=ak ((by rw [hg];exact Nat.ne_of_lt (blk_lt (g:=gb179) (o:= .cells #[.int .i64 a0_0,.int .i64 a0_1,.int .i64 a0_2,.slice A0_3 l0_3.length c0_3,.int .i64 a0_4,.int .i64 a0_5,.int .i64 a0_6,.slice (some ad182) l0_7.length c0_7] 47 (0,0)) (bk BK179)):gb179≠gb185));have n6_:=ak ((by rw [hg];exact Nat.ne_of_gt (blk_lt (g:=gb179) (o:= .cells #[.int .i64 a0_0,.int .i64 a0_1,.int .i64 a0_2,.slice A0_3 l0_3.length c0_3,.int .i64 a0_4,.int .i64 a0_5,.int .i64 a0_6,.slice (some ad182) l0_7.length c0_7] 47 (0,0)) (bk BK179)):gb185≠gb179));clear BK179;clear HB;have BK179:=n0_;have HB:=n1_;have BK185:=n2_;have GW185:=n3_;have GE185:=n4_;have NB179_185:=n5_;have NB185_179:=n6_;clear n0_ n1_ n2_ n3_ n4_ n5_ n6_;clear hb hbox hg;have hnb30:=NB185_179.out;have hnc30:=NB179_185.out;have hcz31_0:w29.cell? ⟨gb185,0,none⟩=some (.int .i64 0):=qj BK185 0;have hcz31_1:w29.cell? ⟨gb185,1,none⟩=some (.int .i64 0):=qj BK185 1;have hfz31_0:=ql BK185 0;have hfz31_1:=ql BK185 1))
              go_roundg k3
              case measure=>have:=HK1.out;have:=HK2.out;have:=HK3.out;omega
              case rel=>exact ⟨(wrap64 (x7_3+1)),qa,H',⟨by have:=HK1.out;have:=HK2.out;have:=HK3.out;omega⟩,⟨by (with_reducible repeat (first |refine blk_drewN ?_ _ |refine blk_drew ?_ |refine blk_alloc ?_ _));refine blk_far ?_ NB179_185.out _;(with_reducible repeat (first |refine blk_drewN ?_ _ |refine blk_drew ?_ |refine blk_alloc ?_ _));refine blk_far ?_ NB179_185.out _;(with_reducible repeat (first |refine blk_drewN ?_ _ |refine blk_drew ?_ |refine blk_alloc ?_ _));exact BK179.out⟩,⟨by repeat (first |(with_reducible first |exact HB.out |apply below_alloc |apply pw_below_drewN |apply below_drew1 |refine below_set ?_ GE179.out |refine below_set ?_ GE185.out) |exact HB.out)⟩⟩
            ·rw [if_neg c17] at H;exact absurd H (by simp)
           ·rw [if_neg c16] at H;have c16b0:decide (x7_3<(((rd_T78 l0_7 x6_2).f2).length:Int))=false:=decide_eq_false c16;clear c16;have H':=ak H;clear H;have hcz32_0:wr.cell? ⟨gb179,0,none⟩=some (.int .i64 a0_0):=qj BK179 0;have hcz32_1:wr.cell? ⟨gb179,1,none⟩=some (.int .i64 a0_1):=qj BK179 1;have hcz32_2:wr.cell? ⟨gb179,2,none⟩=some (.int .i64 a0_2):=qj BK179 2;have hcz32_3:wr.cell? ⟨gb179,3,none⟩=some (.slice A0_3 l0_3.length c0_3):=qj BK179 3;have hcz32_4:wr.cell? ⟨gb179,4,none⟩=some (.int .i64 a0_4):=qj BK179 4
            have hcz32_5:wr.cell? ⟨gb179,5,none⟩=some (.int .i64 a0_5):=qj BK179 5;have hcz32_6:wr.cell? ⟨gb179,6,none⟩=some (.int .i64 a0_6):=qj BK179 6;have hcz32_7:wr.cell? ⟨gb179,7,none⟩=some (.slice A0_7 l0_7.length c0_7):=qj BK179 7;have hfz32_0:=ql BK179 0;have hfz32_1:=ql BK179 1;have hfz32_2:=ql BK179 2;have hfz32_3:=ql BK179 3;have hfz32_4:=ql BK179 4;have hfz32_5:=ql BK179 5;have hfz32_6:=ql BK179 6;have hfz32_7:=ql BK179 7;have p182:0≤(x6_2:Int):=dt;have q182:x6_2<(l0_7.length:Int):=dt
            obtain ⟨ad182,A182_2,c182_2,e182,hx182_0,hx182_1,hx182_2,hl182_2,hi182_2⟩:=at_T78 HR0_7.out x6_2 p182 q182;cases e182;replace hx182_0:=(qd HB hx182_0 :)
            replace hx182_1:=(qd HB hx182_1 :)
            replace hx182_2:=(qd HB hx182_2 :)
            have HR182_2:=ak hi182_2;have HC182_2:=ak hl182_2;clear hi182_2 hl182_2;replace p182:=eq_true p182;replace q182:=eq_true q182
            go_wp2
            go_roundg k3
            case measure=>have:=HK1.out;have:=HK2.out;have:=HK3.out;omega
            case rel=>exact ⟨(wrap64 (x6_2+1)),qa,H',⟨by have:=HK1.out;have:=HK2.out;have:=HK3.out;omega⟩,⟨bk BK179⟩,⟨by repeat (first |(with_reducible first |exact HB.out |apply below_alloc |apply pw_below_drewN |apply below_drew1 |refine below_set ?_ GE179.out) |exact HB.out)⟩⟩
          ·rw [if_neg c15] at H;exact absurd H (by simp)
         ·rw [if_neg c14] at H;exact absurd H (by simp)
      ·rw [if_neg c12] at H;have c12b0:decide (x6_2<(l0_7.length:Int))=false:=decide_eq_false c12;clear c12;obtain rfl:=Option.some.inj H;have hcz33_0:wr.cell? ⟨gb179,0,none⟩=some (.int .i64 a0_0):=qj BK179 0;have hcz33_1:wr.cell? ⟨gb179,1,none⟩=some (.int .i64 a0_1):=qj BK179 1;have hcz33_2:wr.cell? ⟨gb179,2,none⟩=some (.int .i64 a0_2):=qj BK179 2;have hcz33_3:wr.cell? ⟨gb179,3,none⟩=some (.slice A0_3 l0_3.length c0_3):=qj BK179 3;have hcz33_4:wr.cell? ⟨gb179,4,none⟩=some (.int .i64 a0_4):=qj BK179 4
       have hcz33_5:wr.cell? ⟨gb179,5,none⟩=some (.int .i64 a0_5):=qj BK179 5;have hcz33_6:wr.cell? ⟨gb179,6,none⟩=some (.int .i64 a0_6):=qj BK179 6;have hcz33_7:wr.cell? ⟨gb179,7,none⟩=some (.slice A0_7 l0_7.length c0_7):=qj BK179 7;have hfz33_0:=ql BK179 0;have hfz33_1:=ql BK179 1;have hfz33_2:=ql BK179 2;have hfz33_3:=ql BK179 3;have hfz33_4:=ql BK179 4;have hfz33_5:=ql BK179 5;have hfz33_6:=ql BK179 6;have hfz33_7:=ql BK179 7
       go_wp2
       go_ret
       exact ⟨by first |rfl |(simp [errW_none,errW_some]<;>rfl) |(simp [*,errW_none,errW_some]<;>rfl),by repeat (first |(with_reducible first |exact HB.out |apply below_alloc |apply pw_below_drewN |apply below_drew1 |refine below_set ?_ GE179.out) |exact HB.out)⟩
end Go.Proofs.Ytklknkfoafdgpaa.PLiveKnown
