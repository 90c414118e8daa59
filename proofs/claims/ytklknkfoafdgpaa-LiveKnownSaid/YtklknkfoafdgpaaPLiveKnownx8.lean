import Derived.Test.YtklknkfoafdgpaaPLiveKnownx1
namespace Go.Proofs.Ytklknkfoafdgpaa.PLiveKnown
set_option maxHeartbeats 8000000
set_option maxRecDepth 100000
open RowKit YtklknkfoafdgpaaW.PrintWords YtklknkfoafdgpaaW.PrintLast YtklknkfoafdgpaaW.PrintMore
attribute [local go_sem] max2_int min2_int max_two min_two max_three min_three max_four min_four
set_option linter.unusedVariables false
set_option linter.unusedSimpArgs false
def znext.l0:Nat→List (List (List Bool))→Int→List Int→Int→Option (Bool)
 |0,_,_,_,_=>none
 |k+1,x1,x3,x9,x10=>if x10<(x9.length:Int) then (if 0≤x10 then (if (rd x9 x10)≥0 then (if (rd x9 x10)<(x1.length:Int) then (if 0≤(rd x9 x10) then (if 0<((rd_L11 x1 (rd x9 x10)).length:Int) then (if 0≤x3 then (if x3<((rd_L10 (rd_L11 x1 (rd x9 x10)) 0).length:Int) then (if rdOf false (rd_L10 (rd_L11 x1 (rd x9 x10)) 0) x3=true then (some true) else (znext.l0 k x1 x3 x9 (wrap64 (x10+1)))) else (none)) else (none)) else (none)) else (none)) else (znext.l0 k x1 x3 x9 (wrap64 (x10+1)))) else (znext.l0 k x1 x3 x9 (wrap64 (x10+1)))) else (none)) else (some false)
def znext.f (k:Nat) (a0_0:Int) (a0_1:Int) (l0_2:List (S43)) (l1:List (List (List Bool))) (a2:Int) (a3:Int):Option (Bool):=if 0≤a2 then (if a2<(l0_2.length:Int) then (znext.l0 k l1 a3 ((rd_T43 l0_2 a2).f2) 0) else (none)) else (none)
theorem znext.calls (k:Nat) (a0_0:Int) (a0_1:Int) (A0_2:Option Addr) (c0_2:Nat) (l0_2:List (S43)) (A1:Option Addr) (c1:Nat) (l1:List (List (List Bool))) (a2:Int) (a3:Int) (r:Bool) (w:World) (hr0_2:Kd.C k43 w A0_2 l0_2.length l0_2) (hc0_2:l0_2.length≤c0_2) (hr1:Kd.C (Kd.slice 53 (Kd.slice 4 Kd.bool)) w A1 l1.length l1) (hc1:l1.length≤c1) (h:znext.f k a0_0 a0_1 l0_2 l1 a2 a3=some r) :
  Calls Try.prog 48 #[.agg #[.int .i64 a0_0,.int .i64 a0_1,.slice A0_2 l0_2.length c0_2],.slice A1 l1.length c1,.int .i64 a2,.int .i64 a3] w fun e w'=>e= .returned (.bool r)∧Below w.heap.size w w':=by
 have hu24:=Try.underlying24;have HR0_2:=ak hr0_2;have HC0_2:=ak hc0_2;clear hr0_2 hc0_2;have HR1:=ak hr1;have HC1:=ak hc1;clear hr1 hc1;have HB:=ak (Below.refl w.heap.size w);have H:(if 0≤a2 then (if a2<(l0_2.length:Int) then (znext.l0 k l1 a3 ((rd_T43 l0_2 a2).f2) 0) else (none)) else (none))=some r:=h;clear h
 by_cases c5:0≤a2
 ·rw [if_pos c5] at H;have c5b0:decide (0≤a2)=true:=decide_eq_true c5;clear c5
  by_cases c6:a2<(l0_2.length:Int)
  ·rw [if_pos c6] at H;have c6b0:decide (a2<(l0_2.length:Int))=true:=decide_eq_true c6;clear c6;have H':=ak H;clear H
   go_enter Try.func48,Try.ntmps48
   go_wp2_with (first |((with_reducible refine gate_dst (N:=4) rfl ?_);(try (refine gate_guard (by rfl) ?_;dsimp only));refine box_event ?hg (N:=4) ?hd (cs:= #[.int .i64 a0_0,.int .i64 a0_1,.slice A0_2 l0_2.length c0_2]) (t:=24) ?hr ?_;(case hd=>rfl);(case hg=>rfl);(case hr=>first |(go_simp;done) |(go_simp;rfl));intro gb169 hg w7 hbox hb;have n0_:=ak (below_step qe hb);have n1_:=ak (hbox);have n2_:=ak ((by rw [hg];exact (below_size qe):w.heap.size≤gb169));have n3_:=ak ((by rw [hg];exact (below_size qe):w.heap.size≤gb169));clear HB;have HB:=n0_;have BK169:=n1_;have GW169:=n2_;have GE169:=n3_;clear n0_ n1_ n2_ n3_;clear hb hbox hg;have hcz8_0:w7.cell? ⟨gb169,0,none⟩=some (.int .i64 a0_0):=qj BK169 0;have hcz8_1:w7.cell? ⟨gb169,1,none⟩=some (.int .i64 a0_1):=qj BK169 1;have hcz8_2:w7.cell? ⟨gb169,2,none⟩=some (.slice A0_2 l0_2.length c0_2):=qj BK169 2;have hfz8_0:=ql BK169 0;have hfz8_1:=ql BK169 1;have hfz8_2:=ql BK169 2;have p170:0≤(a2:Int):=dt;have q170:a2<(l0_2.length:Int):=dt;obtain ⟨ad170,A170_1,c170_1,A170_2,c170_2,e170,hx170_0,hx170_1,hx170_2,hl170_1,hi170_1,hl170_2,hi170_2⟩:=at_T43 HR0_2.out a2 p170 q170;cases e170;replace hx170_0:=(qd HB hx170_0 :);replace hx170_1:=(qd HB hx170_1 :);replace hx170_2:=(qd HB hx170_2 :);have HR170_1:=ak hi170_1;have HC170_1:=ak hl170_1;clear hi170_1 hl170_1;have HR170_2:=ak hi170_2;have HC170_2:=ak hl170_2;clear hi170_2 hl170_2;replace p170:=eq_true p170;replace q170:=eq_true q170))
   go_loopg [10] k (fun kq v10 w'=>∃ (x10_1:Int),v10= .int .i64 x10_1∧Aside0 (znext.l0 kq l1 a3 ((rd_T43 l0_2 a2).f2) x10_1=some r)∧Aside0 (kq≤k)∧Aside0 (w'.heap[gb169]? =some (.cells #[.int .i64 a0_0,.int .i64 a0_1,(.slice (some ad170) l0_2.length c0_2)] 24 (0,0)))∧Aside0 (Below w.heap.size w w'))
   case atStart=>exact ⟨(0),qa,H',⟨Nat.le_refl _⟩,⟨bk BK169⟩,⟨by repeat (first |(with_reducible first |exact HB.out |apply below_alloc |apply pw_below_drewN |apply below_drew1 |refine below_set ?_ GE169.out) |exact HB.out)⟩⟩
   case round =>
    clear H'
    try clear c1
    try clear p1
    try clear q1
    try clear hx1
    try clear p2
    try clear c4
    try clear c5
    try clear c5b0
    try clear c6
    try clear c6b0
    try clear hcz8_0
    try clear hcz8_1
    try clear hcz8_2
    try clear hfz8_0
    try clear hfz8_1
    try clear hfz8_2
    try clear hx170_0
    try clear hx170_1
    try clear hx170_2
    try clear p170
    try clear q170
    obtain ⟨x10_1,rfl,HA,HK1,BK169,HB⟩:=hrel;cases gk with
    |zero=>exact absurd HA.out (by simp [znext.l0])
    |succ k1 =>
     have H:=HA.out;clear HA;simp only [znext.l0] at H
     by_cases c9:x10_1<(((rd_T43 l0_2 a2).f2).length:Int)
     ·rw [if_pos c9] at H;have c9b0:decide (x10_1<(((rd_T43 l0_2 a2).f2).length:Int))=true:=decide_eq_true c9;clear c9
      by_cases c10:0≤x10_1
      ·rw [if_pos c10] at H;have c10b0:decide (0≤x10_1)=true:=decide_eq_true c10;clear c10
       by_cases c11:(rd ((rd_T43 l0_2 a2).f2) x10_1)≥0
       ·rw [if_pos c11] at H;have c11b0:decide (0≤(rd ((rd_T43 l0_2 a2).f2) x10_1))=true:=decide_eq_true c11;clear c11
        by_cases c12:(rd ((rd_T43 l0_2 a2).f2) x10_1)<(l1.length:Int)
        ·rw [if_pos c12] at H;have c12b0:decide ((rd ((rd_T43 l0_2 a2).f2) x10_1)<(l1.length:Int))=true:=decide_eq_true c12;clear c12
         by_cases c13:0≤(rd ((rd_T43 l0_2 a2).f2) x10_1)
         ·rw [if_pos c13] at H;have c13b0:decide (0≤(rd ((rd_T43 l0_2 a2).f2) x10_1))=true:=decide_eq_true c13;clear c13
          by_cases c14:0<((rd_L11 l1 (rd ((rd_T43 l0_2 a2).f2) x10_1)).length:Int)
          ·rw [if_pos c14] at H;have c14b0:decide (0<((rd_L11 l1 (rd ((rd_T43 l0_2 a2).f2) x10_1)).length:Int))=true:=decide_eq_true c14;have c14b1:decide (0<(rd_L11 l1 (rd ((rd_T43 l0_2 a2).f2) x10_1)).length)=true:=decide_eq_true (by omega);clear c14
           by_cases c15:0≤a3
           ·rw [if_pos c15] at H;have c15b0:decide (0≤a3)=true:=decide_eq_true c15;clear c15
            by_cases c16:a3<((rd_L10 (rd_L11 l1 (rd ((rd_T43 l0_2 a2).f2) x10_1)) 0).length:Int)
            ·rw [if_pos c16] at H;have c16b0:decide (a3<((rd_L10 (rd_L11 l1 (rd ((rd_T43 l0_2 a2).f2) x10_1)) 0).length:Int))=true:=decide_eq_true c16;clear c16;obtain ⟨bq17,hbq17⟩:∃ b_:Bool,b_=(rdOf false (rd_L10 (rd_L11 l1 (rd ((rd_T43 l0_2 a2).f2) x10_1)) 0) a3):=⟨_,rfl⟩
             replace H:(if bq17=true then (some true) else (znext.l0 k1 l1 a3 ((rd_T43 l0_2 a2).f2) (wrap64 (x10_1+1))))=some r:=by rw [←hbq17] at H;exact H
             have Nbq17:=ak hbq17;clear hbq17
             by_cases c18:bq17=true
             ·subst c18;have H1:(some true)=some r:=by rw [if_pos rfl] at H;exact H
              clear H;have H:=H1;clear H1;obtain rfl:=Option.some.inj H;have p171:0≤(x10_1:Int):=dt;have q171:x10_1<(((rd_T43 l0_2 a2).f2).length:Int):=dt;obtain ⟨ad171,e171,hx171_0⟩:=Kd.at_int HR170_2.out x10_1 p171 q171;cases e171;replace hx171_0:=(qd HB hx171_0 :)
              replace p171:=eq_true p171;replace q171:=eq_true q171;have p172:0≤(x10_1:Int):=dt;have q172:x10_1<(((rd_T43 l0_2 a2).f2).length:Int):=dt;obtain ⟨ad172,e172,hx172_0⟩:=Kd.at_int HR170_2.out x10_1 p172 q172;obtain rfl:ad171=ad172:=(by injection e172)
              replace hx172_0:=(qd HB hx172_0 :)
              replace p172:=eq_true p172;replace q172:=eq_true q172;have p173:0≤(x10_1:Int):=dt;have q173:x10_1<(((rd_T43 l0_2 a2).f2).length:Int):=dt;obtain ⟨ad173,e173,hx173_0⟩:=Kd.at_int HR170_2.out x10_1 p173 q173;obtain rfl:ad171=ad173:=(by injection e173)
              replace hx173_0:=(qd HB hx173_0 :)
              replace p173:=eq_true p173;replace q173:=eq_true q173;have p174:0≤((rd ((rd_T43 l0_2 a2).f2) x10_1):Int):=dt;have q174:(rd ((rd_T43 l0_2 a2).f2) x10_1)<(l1.length:Int):=dt;obtain ⟨ad174,A174_0,c174_0,e174,hx174_0,hl174_0,hi174_0⟩:=at_L11 HR1.out (rd ((rd_T43 l0_2 a2).f2) x10_1) p174 q174;cases e174;replace hx174_0:=(qd HB hx174_0 :)
              have HR174_0:=ak hi174_0;have HC174_0:=ak hl174_0;clear hi174_0 hl174_0;replace p174:=eq_true p174;replace q174:=eq_true q174;have p175:0≤(0:Int):=(by omega)
              have q175:0<((rd_L11 l1 (rd ((rd_T43 l0_2 a2).f2) x10_1)).length:Int):=dt;obtain ⟨ad175,A175_0,c175_0,e175,hx175_0,hl175_0,hi175_0⟩:=at_L10 HR174_0.out 0 p175 q175;cases e175;have qi175:(0<(rd_L11 l1 (rd ((rd_T43 l0_2 a2).f2) x10_1)).length)=True:=eq_true (by omega)
              (try rw [show ((0:Int)).toNat=0 from rfl] at hx175_0)
              (try rw [Addr.add_zero'] at hx175_0)
              replace hx175_0:=(qd HB hx175_0 :)
              have HR175_0:=ak hi175_0;have HC175_0:=ak hl175_0;clear hi175_0 hl175_0;replace p175:=eq_true p175;replace q175:=eq_true q175;have p176:0≤(a3:Int):=dt;have q176:a3<((rd_L10 (rd_L11 l1 (rd ((rd_T43 l0_2 a2).f2) x10_1)) 0).length:Int):=dt;obtain ⟨ad176,e176,hx176_0⟩:=Kd.at_bool HR175_0.out a3 p176 q176
              (try rw [←Nbq17.out] at hx176_0)
              cases e176;replace hx176_0:=(qd HB hx176_0 :)
              replace p176:=eq_true p176;replace q176:=eq_true q176
              go_wp2
              go_ret
              exact ⟨by first |rfl |(simp [errW_none,errW_some]<;>rfl) |(simp [*,errW_none,errW_some]<;>rfl),by repeat (first |(with_reducible first |exact HB.out |apply below_alloc |apply pw_below_drewN |apply below_drew1 |refine below_set ?_ GE169.out) |exact HB.out)⟩
             ·replace c18:=Bool.eq_false_iff.mpr c18;subst c18;have H1:(znext.l0 k1 l1 a3 ((rd_T43 l0_2 a2).f2) (wrap64 (x10_1+1)))=some r:=by rw [if_neg (show ¬ (false=true) by decide)] at H;exact H
              clear H;have H:=H1;clear H1;have H':=ak H;clear H;have p171:0≤(x10_1:Int):=dt;have q171:x10_1<(((rd_T43 l0_2 a2).f2).length:Int):=dt;obtain ⟨ad171,e171,hx171_0⟩:=Kd.at_int HR170_2.out x10_1 p171 q171;cases e171;replace hx171_0:=(qd HB hx171_0 :)
              replace p171:=eq_true p171;replace q171:=eq_true q171;have p172:0≤(x10_1:Int):=dt;have q172:x10_1<(((rd_T43 l0_2 a2).f2).length:Int):=dt;obtain ⟨ad172,e172,hx172_0⟩:=Kd.at_int HR170_2.out x10_1 p172 q172;obtain rfl:ad171=ad172:=(by injection e172)
              replace hx172_0:=(qd HB hx172_0 :)
              replace p172:=eq_true p172;replace q172:=eq_true q172;have p173:0≤(x10_1:Int):=dt;have q173:x10_1<(((rd_T43 l0_2 a2).f2).length:Int):=dt;obtain ⟨ad173,e173,hx173_0⟩:=Kd.at_int HR170_2.out x10_1 p173 q173;obtain rfl:ad171=ad173:=(by injection e173)
              replace hx173_0:=(qd HB hx173_0 :)
              replace p173:=eq_true p173;replace q173:=eq_true q173;have p174:0≤((rd ((rd_T43 l0_2 a2).f2) x10_1):Int):=dt;have q174:(rd ((rd_T43 l0_2 a2).f2) x10_1)<(l1.length:Int):=dt;obtain ⟨ad174,A174_0,c174_0,e174,hx174_0,hl174_0,hi174_0⟩:=at_L11 HR1.out (rd ((rd_T43 l0_2 a2).f2) x10_1) p174 q174;cases e174;replace hx174_0:=(qd HB hx174_0 :)
              have HR174_0:=ak hi174_0;have HC174_0:=ak hl174_0;clear hi174_0 hl174_0;replace p174:=eq_true p174;replace q174:=eq_true q174;have p175:0≤(0:Int):=(by omega)
              have q175:0<((rd_L11 l1 (rd ((rd_T43 l0_2 a2).f2) x10_1)).length:Int):=dt;obtain ⟨ad175,A175_0,c175_0,e175,hx175_0,hl175_0,hi175_0⟩:=at_L10 HR174_0.out 0 p175 q175;cases e175;have qi175:(0<(rd_L11 l1 (rd ((rd_T43 l0_2 a2).f2) x10_1)).length)=True:=eq_true (by omega)
              (try rw [show ((0:Int)).toNat=0 from rfl] at hx175_0)
              (try rw [Addr.add_zero'] at hx175_0)
              replace hx175_0:=(qd HB hx175_0 :)
              have HR175_0:=ak hi175_0;have HC175_0:=ak hl175_0;clear hi175_0 hl175_0;replace p175:=eq_true p175;replace q175:=eq_true q175;have p176:0≤(a3:Int):=dt;have q176:a3<((rd_L10 (rd_L11 l1 (rd ((rd_T43 l0_2 a2).f2) x10_1)) 0).length:Int):=dt;obtain ⟨ad176,e176,hx176_0⟩:=Kd.at_bool HR175_0.out a3 p176 q176
              (try rw [←Nbq17.out] at hx176_0)
              cases e176;replace hx176_0:=(qd HB hx176_0 :)
              replace p176:=eq_true p176;replace q176:=eq_true q176
              go_wp2
              go_roundg k1
              case measure=>have:=HK1.out;omega
              case rel=>exact ⟨(wrap64 (x10_1+1)),qa,H',⟨by have:=HK1.out;omega⟩,⟨bk BK169⟩,⟨by repeat (first |(with_reducible first |exact HB.out |apply below_alloc |apply pw_below_drewN |apply below_drew1 |refine below_set ?_ GE169.out) |exact HB.out)⟩⟩
            ·rw [if_neg c16] at H;exact absurd H (by simp)
           ·rw [if_neg c15] at H;exact absurd H (by simp)
          ·rw [if_neg c14] at H;exact absurd H (by simp)
         ·rw [if_neg c13] at H;exact absurd H (by simp)
        ·rw [if_neg c12] at H;have c12b0:decide ((rd ((rd_T43 l0_2 a2).f2) x10_1)<(l1.length:Int))=false:=decide_eq_false c12;clear c12;have H':=ak H;clear H;have p171:0≤(x10_1:Int):=dt;have q171:x10_1<(((rd_T43 l0_2 a2).f2).length:Int):=dt;obtain ⟨ad171,e171,hx171_0⟩:=Kd.at_int HR170_2.out x10_1 p171 q171;cases e171;replace hx171_0:=(qd HB hx171_0 :)
         replace p171:=eq_true p171;replace q171:=eq_true q171;have p172:0≤(x10_1:Int):=dt;have q172:x10_1<(((rd_T43 l0_2 a2).f2).length:Int):=dt;obtain ⟨ad172,e172,hx172_0⟩:=Kd.at_int HR170_2.out x10_1 p172 q172;obtain rfl:ad171=ad172:=(by injection e172)
         replace hx172_0:=(qd HB hx172_0 :)
         replace p172:=eq_true p172;replace q172:=eq_true q172
         go_wp2
         go_roundg k1
         case measure=>have:=HK1.out;omega
         case rel=>exact ⟨(wrap64 (x10_1+1)),qa,H',⟨by have:=HK1.out;omega⟩,⟨bk BK169⟩,⟨by repeat (first |(with_reducible first |exact HB.out |apply below_alloc |apply pw_below_drewN |apply below_drew1 |refine below_set ?_ GE169.out) |exact HB.out)⟩⟩
       ·rw [if_neg c11] at H;have c11b0:decide (0≤(rd ((rd_T43 l0_2 a2).f2) x10_1))=false:=decide_eq_false c11;clear c11;have H':=ak H;clear H;have p171:0≤(x10_1:Int):=dt;have q171:x10_1<(((rd_T43 l0_2 a2).f2).length:Int):=dt;obtain ⟨ad171,e171,hx171_0⟩:=Kd.at_int HR170_2.out x10_1 p171 q171;cases e171;replace hx171_0:=(qd HB hx171_0 :)
        replace p171:=eq_true p171;replace q171:=eq_true q171
        go_wp2
        go_roundg k1
        case measure=>have:=HK1.out;omega
        case rel=>exact ⟨(wrap64 (x10_1+1)),qa,H',⟨by have:=HK1.out;omega⟩,⟨bk BK169⟩,⟨by repeat (first |(with_reducible first |exact HB.out |apply below_alloc |apply pw_below_drewN |apply below_drew1 |refine below_set ?_ GE169.out) |exact HB.out)⟩⟩
      ·rw [if_neg c10] at H;exact absurd H (by simp)
     ·rw [if_neg c9] at H;have c9b0:decide (x10_1<(((rd_T43 l0_2 a2).f2).length:Int))=false:=decide_eq_false c9;clear c9;obtain rfl:=Option.some.inj H
      go_wp2
      go_ret
      exact ⟨by first |rfl |(simp [errW_none,errW_some]<;>rfl) |(simp [*,errW_none,errW_some]<;>rfl),by repeat (first |(with_reducible first |exact HB.out |apply below_alloc |apply pw_below_drewN |apply below_drew1 |refine below_set ?_ GE169.out) |exact HB.out)⟩
  ·rw [if_neg c6] at H;exact absurd H (by simp)
 ·rw [if_neg c5] at H;exact absurd H (by simp)
def portageref24_quiet.f (a0_0:Int) (a0_1:Int) (a0_2:Int) (l0_3:List (S82)) (a0_4:Int) (a0_5:Int) (a0_6:Int) (l0_7:List (S78)):Option (Bool):=if a0_0=1 then (some true) else (some (a0_0==2))
theorem portageref24_quiet.calls (a0_0:Int) (a0_1:Int) (a0_2:Int) (A0_3:Option Addr) (c0_3:Nat) (l0_3:List (S82)) (a0_4:Int) (a0_5:Int) (a0_6:Int) (A0_7:Option Addr) (c0_7:Nat) (l0_7:List (S78)) (r:Bool) (w:World) (hr0_3:Kd.C k82 w A0_3 l0_3.length l0_3) (hc0_3:l0_3.length≤c0_3) (hr0_7:Kd.C k78 w A0_7 l0_7.length l0_7) (hc0_7:l0_7.length≤c0_7) (h:portageref24_quiet.f a0_0 a0_1 a0_2 l0_3 a0_4 a0_5 a0_6 l0_7=some r) :
  Calls Try.prog 56 #[.agg #[.int .i64 a0_0,.int .i64 a0_1,.int .i64 a0_2,.slice A0_3 l0_3.length c0_3,.int .i64 a0_4,.int .i64 a0_5,.int .i64 a0_6,.slice A0_7 l0_7.length c0_7]] w fun e w'=>e= .returned (.bool r)∧Below w.heap.size w w':=by
 have hu47:=Try.underlying47;have HR0_3:=ak hr0_3;have HC0_3:=ak hc0_3;clear hr0_3 hc0_3;have HR0_7:=ak hr0_7;have HC0_7:=ak hc0_7;clear hr0_7 hc0_7;have HB:=ak (Below.refl w.heap.size w);have H:(if a0_0=1 then (some true) else (some (a0_0==2)))=some r:=h;clear h
 by_cases c2:a0_0=1
 ·rw [if_pos c2] at H;have c2b0:(a0_0==1)=true:=beq_iff_eq.mpr c2;have c2b1:(a0_0 != 1)=false:=bne_eq_false_iff_eq.mpr c2;clear c2;obtain rfl:=Option.some.inj H
  go_enter Try.func56,Try.ntmps56
  go_wp2_with (first |((with_reducible refine gate_dst (N:=1) rfl ?_);refine box_event ?hg (N:=1) ?hd (cs:= #[.int .i64 a0_0,.int .i64 a0_1,.int .i64 a0_2,.slice A0_3 l0_3.length c0_3,.int .i64 a0_4,.int .i64 a0_5,.int .i64 a0_6,.slice A0_7 l0_7.length c0_7]) (t:=47) ?hr ?_;(case hd=>rfl);(case hg=>rfl);(case hr=>first |(go_simp;done) |(go_simp;rfl));intro gb177 hg w3 hbox hb;have n0_:=ak (below_step qe hb);have n1_:=ak (hbox);have n2_:=ak ((by rw [hg];exact (below_size qe):w.heap.size≤gb177));have n3_:=ak ((by rw [hg];exact (below_size qe):w.heap.size≤gb177));clear HB;have HB:=n0_;have BK177:=n1_;have GW177:=n2_;have GE177:=n3_;clear n0_ n1_ n2_ n3_;clear hb hbox hg;have hcz4_0:w3.cell? ⟨gb177,0,none⟩=some (.int .i64 a0_0):=qj BK177 0;have hcz4_1:w3.cell? ⟨gb177,1,none⟩=some (.int .i64 a0_1):=qj BK177 1;have hcz4_2:w3.cell? ⟨gb177,2,none⟩=some (.int .i64 a0_2):=qj BK177 2;have hcz4_3:w3.cell? ⟨gb177,3,none⟩=some (.slice A0_3 l0_3.length c0_3):=qj BK177 3;have hcz4_4:w3.cell? ⟨gb177,4,none⟩=some (.int .i64 a0_4):=qj BK177 4;have hcz4_5:w3.cell? ⟨gb177,5,none⟩=some (.int .i64 a0_5):=qj BK177 5;have hcz4_6:w3.cell? ⟨gb177,6,none⟩=some (.int .i64 a0_6):=qj BK177 6;have hcz4_7:w3.cell? ⟨gb177,7,none⟩=some (.slice A0_7 l0_7.length c0_7):=qj BK177 7;have hfz4_0:=ql BK177 0;have hfz4_1:=ql BK177 1;have hfz4_2:=ql BK177 2;have hfz4_3:=ql BK177 3;have hfz4_4:=ql BK177 4;have hfz4_5:=ql BK177 5;have hfz4_6:=ql BK177 6;have hfz4_7:=ql BK177 7))
  go_ret
  exact ⟨by first |rfl |(simp [errW_none,errW_some]<;>rfl) |(simp [*,errW_none,errW_some]<;>rfl),by repeat (first |(with_reducible first |exact HB.out |apply below_alloc |apply pw_below_drewN |apply below_drew1 |refine below_set ?_ GE177.out) |exact HB.out)⟩
 ·rw [if_neg c2] at H;have c2b0:(a0_0==1)=false:=beq_eq_false_iff_ne.mpr c2;have c2b1:(a0_0 != 1)=true:=bne_iff_ne.mpr c2;obtain rfl:=Option.some.inj H
  go_enter Try.func56,Try.ntmps56
  go_wp2_with (first |((with_reducible refine gate_dst (N:=1) rfl ?_);refine box_event ?hg (N:=1) ?hd (cs:= #[.int .i64 a0_0,.int .i64 a0_1,.int .i64 a0_2,.slice A0_3 l0_3.length c0_3,.int .i64 a0_4,.int .i64 a0_5,.int .i64 a0_6,.slice A0_7 l0_7.length c0_7]) (t:=47) ?hr ?_;(case hd=>rfl);(case hg=>rfl);(case hr=>first |(go_simp;done) |(go_simp;rfl));intro gb177 hg w5 hbox hb;have n0_:=ak (below_step qe hb);have n1_:=ak (hbox);have n2_:=ak ((by rw [hg];exact (below_size qe):w.heap.size≤gb177));have n3_:=ak ((by rw [hg];exact (below_size qe):w.heap.size≤gb177));clear HB;have HB:=n0_;have BK177:=n1_;have GW177:=n2_;have GE177:=n3_;clear n0_ n1_ n2_ n3_;clear hb hbox hg;have hcz6_0:w5.cell? ⟨gb177,0,none⟩=some (.int .i64 a0_0):=qj BK177 0;have hcz6_1:w5.cell? ⟨gb177,1,none⟩=some (.int .i64 a0_1):=qj BK177 1;have hcz6_2:w5.cell? ⟨gb177,2,none⟩=some (.int .i64 a0_2):=qj BK177 2;have hcz6_3:w5.cell? ⟨gb177,3,none⟩=some (.slice A0_3 l0_3.length c0_3):=qj BK177 3;have hcz6_4:w5.cell? ⟨gb177,4,none⟩=some (.int .i64 a0_4):=qj BK177 4;have hcz6_5:w5.cell? ⟨gb177,5,none⟩=some (.int .i64 a0_5):=qj BK177 5;have hcz6_6:w5.cell? ⟨gb177,6,none⟩=some (.int .i64 a0_6):=qj BK177 6;have hcz6_7:w5.cell? ⟨gb177,7,none⟩=some (.slice A0_7 l0_7.length c0_7):=qj BK177 7;have hfz6_0:=ql BK177 0;have hfz6_1:=ql BK177 1;have hfz6_2:=ql BK177 2;have hfz6_3:=ql BK177 3;have hfz6_4:=ql BK177 4;have hfz6_5:=ql BK177 5;have hfz6_6:=ql BK177 6;have hfz6_7:=ql BK177 7))
  go_ret
  exact ⟨by first |rfl |(simp [errW_none,errW_some]<;>rfl) |(simp [*,errW_none,errW_some]<;>rfl),by repeat (first |(with_reducible first |exact HB.out |apply below_alloc |apply pw_below_drewN |apply below_drew1 |refine below_set ?_ GE177.out) |exact HB.out)⟩
def zin.f (l0:List Bool) (a1:Int):Option (Bool):=if a1≥0 then (if a1<(l0.length:Int) then (if 0≤a1 then (some (rdOf false l0 a1)) else (none)) else (some false)) else (some false)
theorem zin.calls (A0:Option Addr) (c0:Nat) (l0:List Bool) (a1:Int) (r:Bool) (w:World) (hr0:Kd.C Kd.bool w A0 l0.length l0) (hc0:l0.length≤c0) (h:zin.f l0 a1=some r) :
  Calls Try.prog 57 #[.slice A0 l0.length c0,.int .i64 a1] w fun e w'=>e= .returned (.bool r)∧Drawn0 w w':=by
 have HR0:=ak hr0;have HC0:=ak hc0;clear hr0 hc0;have H:(if a1≥0 then (if a1<(l0.length:Int) then (if 0≤a1 then (some (rdOf false l0 a1)) else (none)) else (some false)) else (some false))=some r:=h;clear h
 by_cases c3:a1≥0
 ·rw [if_pos c3] at H;have c3b0:decide (0≤a1)=true:=decide_eq_true c3;clear c3
  by_cases c4:a1<(l0.length:Int)
  ·rw [if_pos c4] at H;have c4b0:decide (a1<(l0.length:Int))=true:=decide_eq_true c4;clear c4
   by_cases c5:0≤a1
   ·rw [if_pos c5] at H;have c5b0:decide (0≤a1)=true:=decide_eq_true c5;clear c5;obtain rfl:=Option.some.inj H;have p178:0≤(a1:Int):=dt;have q178:a1<(l0.length:Int):=dt;obtain ⟨ad178,e178,hx178_0⟩:=Kd.at_bool HR0.out a1 p178 q178;cases e178;replace p178:=eq_true p178;replace q178:=eq_true q178
    go_enter Try.func57,Try.ntmps57
    go_wp2
    go_ret
    exact ⟨by first |rfl |(simp;done) |(simp [*];done),by repeat (first |exact Drawn0.refl _ |apply Drawn0.step)⟩
   ·rw [if_neg c5] at H;exact absurd H (by simp)
  ·rw [if_neg c4] at H;have c4b0:decide (a1<(l0.length:Int))=false:=decide_eq_false c4;clear c4;obtain rfl:=Option.some.inj H
   go_enter Try.func57,Try.ntmps57
   go_wp2
   go_ret
   exact ⟨by first |rfl |(simp;done) |(simp [*];done),by repeat (first |exact Drawn0.refl _ |apply Drawn0.step)⟩
 ·rw [if_neg c3] at H;have c3b0:decide (0≤a1)=false:=decide_eq_false c3;clear c3;obtain rfl:=Option.some.inj H
  go_enter Try.func57,Try.ntmps57
  go_wp2
  go_ret
  exact ⟨by first |rfl |(simp;done) |(simp [*];done),by repeat (first |exact Drawn0.refl _ |apply Drawn0.step)⟩
end Go.Proofs.Ytklknkfoafdgpaa.PLiveKnown
