import Derived.Test.YtklknkfoafdgpaaPLiveKnownx1
import Derived.Test.YtklknkfoafdgpaaPLiveKnownx2
import Derived.Test.YtklknkfoafdgpaaPLiveKnownx3
namespace Go.Proofs.Ytklknkfoafdgpaa.PLiveKnown
set_option maxHeartbeats 8000000
set_option maxRecDepth 100000
open RowKit YtklknkfoafdgpaaW.PrintWords YtklknkfoafdgpaaW.PrintLast YtklknkfoafdgpaaW.PrintMore
attribute [local go_sem] max2_int min2_int max_two min_two max_three min_three max_four min_four
set_option linter.unusedVariables false
set_option linter.unusedSimpArgs false
def zSameIns.j0:Nat→Bool→Int→Int→Int→List (S82)→Int→Int→Int→List (S78)→Int→Int→Int→List (S82)→Int→Int→Int→List (S78)→Option (Bool)
 |0,_,_,_,_,_,_,_,_,_,_,_,_,_,_,_,_,_=>none
 |k+1,x44,x120000,x120001,x120002,x120003,x120004,x120005,x120006,x120007,x121000,x121001,x121002,x121003,x121004,x121005,x121006,x121007=>if x44=true then (some false) else ((zSameOpnds.f k x120003 x121003).bind fun t121=>(if t121=true then ((zSameShapes.f k x120007 x121007).bind fun t122=>(some t122)) else (some false)))
def zSameIns.f (k:Nat) (a0_0:Int) (a0_1:Int) (a0_2:Int) (l0_3:List (S82)) (a0_4:Int) (a0_5:Int) (a0_6:Int) (l0_7:List (S78)) (a1_0:Int) (a1_1:Int) (a1_2:Int) (l1_3:List (S82)) (a1_4:Int) (a1_5:Int) (a1_6:Int) (l1_7:List (S78)):Option (Bool):=if a0_0=a1_0 then (if a0_1=a1_1 then (if a0_2=a1_2 then (if a0_4=a1_4 then (if a0_5=a1_5 then (zSameIns.j0 k (a0_6 != a1_6) a0_0 a0_1 a0_2 l0_3 a0_4 a0_5 a0_6 l0_7 a1_0 a1_1 a1_2 l1_3 a1_4 a1_5 a1_6 l1_7) else (zSameIns.j0 k true a0_0 a0_1 a0_2 l0_3 a0_4 a0_5 a0_6 l0_7 a1_0 a1_1 a1_2 l1_3 a1_4 a1_5 a1_6 l1_7)) else (zSameIns.j0 k true a0_0 a0_1 a0_2 l0_3 a0_4 a0_5 a0_6 l0_7 a1_0 a1_1 a1_2 l1_3 a1_4 a1_5 a1_6 l1_7)) else (zSameIns.j0 k true a0_0 a0_1 a0_2 l0_3 a0_4 a0_5 a0_6 l0_7 a1_0 a1_1 a1_2 l1_3 a1_4 a1_5 a1_6 l1_7)) else (zSameIns.j0 k true a0_0 a0_1 a0_2 l0_3 a0_4 a0_5 a0_6 l0_7 a1_0 a1_1 a1_2 l1_3 a1_4 a1_5 a1_6 l1_7)) else (zSameIns.j0 k true a0_0 a0_1 a0_2 l0_3 a0_4 a0_5 a0_6 l0_7 a1_0 a1_1 a1_2 l1_3 a1_4 a1_5 a1_6 l1_7)
theorem zSameIns.calls (k:Nat) (a0_0:Int) (a0_1:Int) (a0_2:Int) (A0_3:Option Addr) (c0_3:Nat) (l0_3:List (S82)) (a0_4:Int) (a0_5:Int) (a0_6:Int) (A0_7:Option Addr) (c0_7:Nat) (l0_7:List (S78)) (a1_0:Int) (a1_1:Int) (a1_2:Int) (A1_3:Option Addr) (c1_3:Nat) (l1_3:List (S82)) (a1_4:Int) (a1_5:Int) (a1_6:Int) (A1_7:Option Addr) (c1_7:Nat) (l1_7:List (S78)) (r:Bool) (w:World) (hr0_3:Kd.C k82 w A0_3 l0_3.length l0_3) (hc0_3:l0_3.length≤c0_3) (hr0_7:Kd.C k78 w A0_7 l0_7.length l0_7) (hc0_7:l0_7.length≤c0_7) (hr1_3:Kd.C k82 w A1_3 l1_3.length l1_3) (hc1_3:l1_3.length≤c1_3) (hr1_7:Kd.C k78 w A1_7 l1_7.length l1_7) (hc1_7:l1_7.length≤c1_7) (h:zSameIns.f k a0_0 a0_1 a0_2 l0_3 a0_4 a0_5 a0_6 l0_7 a1_0 a1_1 a1_2 l1_3 a1_4 a1_5 a1_6 l1_7=some r) :
  Calls Try.prog 37 #[.agg #[.int .i64 a0_0,.int .i64 a0_1,.int .i64 a0_2,.slice A0_3 l0_3.length c0_3,.int .i64 a0_4,.int .i64 a0_5,.int .i64 a0_6,.slice A0_7 l0_7.length c0_7],.agg #[.int .i64 a1_0,.int .i64 a1_1,.int .i64 a1_2,.slice A1_3 l1_3.length c1_3,.int .i64 a1_4,.int .i64 a1_5,.int .i64 a1_6,.slice A1_7 l1_7.length c1_7]] w fun e w'=>e= .returned (.bool r)∧Below w.heap.size w w':=by
 have hu47:=Try.underlying47;have HR0_3:=ak hr0_3;have HC0_3:=ak hc0_3;clear hr0_3 hc0_3;have HR0_7:=ak hr0_7;have HC0_7:=ak hc0_7;clear hr0_7 hc0_7;have HR1_3:=ak hr1_3;have HC1_3:=ak hc1_3;clear hr1_3 hc1_3;have HR1_7:=ak hr1_7;have HC1_7:=ak hc1_7;clear hr1_7 hc1_7;have HB:=ak (Below.refl w.heap.size w)
 have H:(if a0_0=a1_0 then (if a0_1=a1_1 then (if a0_2=a1_2 then (if a0_4=a1_4 then (if a0_5=a1_5 then (zSameIns.j0 k (a0_6 != a1_6) a0_0 a0_1 a0_2 l0_3 a0_4 a0_5 a0_6 l0_7 a1_0 a1_1 a1_2 l1_3 a1_4 a1_5 a1_6 l1_7) else (zSameIns.j0 k true a0_0 a0_1 a0_2 l0_3 a0_4 a0_5 a0_6 l0_7 a1_0 a1_1 a1_2 l1_3 a1_4 a1_5 a1_6 l1_7)) else (zSameIns.j0 k true a0_0 a0_1 a0_2 l0_3 a0_4 a0_5 a0_6 l0_7 a1_0 a1_1 a1_2 l1_3 a1_4 a1_5 a1_6 l1_7)) else (zSameIns.j0 k true a0_0 a0_1 a0_2 l0_3 a0_4 a0_5 a0_6 l0_7 a1_0 a1_1 a1_2 l1_3 a1_4 a1_5 a1_6 l1_7)) else (zSameIns.j0 k true a0_0 a0_1 a0_2 l0_3 a0_4 a0_5 a0_6 l0_7 a1_0 a1_1 a1_2 l1_3 a1_4 a1_5 a1_6 l1_7)) else (zSameIns.j0 k true a0_0 a0_1 a0_2 l0_3 a0_4 a0_5 a0_6 l0_7 a1_0 a1_1 a1_2 l1_3 a1_4 a1_5 a1_6 l1_7))=some r:=h
 clear h;have HC3:=ak H;clear H
 go_enter Try.func37,Try.ntmps37
 go_upto_region 1 with (first |((with_reducible refine gate_dst (N:=2) rfl ?_);refine box_event ?hg (N:=2) ?hd (cs:= #[.int .i64 a0_0,.int .i64 a0_1,.int .i64 a0_2,.slice A0_3 l0_3.length c0_3,.int .i64 a0_4,.int .i64 a0_5,.int .i64 a0_6,.slice A0_7 l0_7.length c0_7]) (t:=47) ?hr ?_;(case hd=>rfl);(case hg=>rfl);(case hr=>first |(go_simp;done) |(go_simp;rfl));intro gb119 hg w4 hbox hb;have n0_:=ak (below_step qe hb);have n1_:=ak (hbox);have n2_:=ak ((by rw [hg];exact (below_size qe):w.heap.size≤gb119));have n3_:=ak ((by rw [hg];exact (below_size qe):w.heap.size≤gb119));clear HB;have HB:=n0_;have BK119:=n1_;have GW119:=n2_;have GE119:=n3_;clear n0_ n1_ n2_ n3_;clear hb hbox hg) |((with_reducible refine gate_dst (N:=3) rfl ?_);refine box_event ?hg (N:=3) ?hd (cs:= #[.int .i64 a1_0,.int .i64 a1_1,.int .i64 a1_2,.slice A1_3 l1_3.length c1_3,.int .i64 a1_4,.int .i64 a1_5,.int .i64 a1_6,.slice A1_7 l1_7.length c1_7]) (t:=47) ?hr ?_;(case hd=>rfl);(case hg=>rfl);(case hr=>first |(go_simp;done) |(go_simp;rfl));intro gb120 hg w5 hbox hb;have n0_:=ak (blk_below (g:=gb119) (o:= .cells #[.int .i64 a0_0,.int .i64 a0_1,.int .i64 a0_2,.slice A0_3 l0_3.length c0_3,.int .i64 a0_4,.int .i64 a0_5,.int .i64 a0_6,.slice A0_7 l0_7.length c0_7] 47 (0,0)) (bk BK119) hb);have n1_:=ak (below_step (qm GE119) hb);have n2_:=ak (hbox);have n3_:=ak ((by rw [hg];exact (below_size (qm GE119)):w.heap.size≤gb120));have n4_:=ak ((by rw [hg];exact (below_size (qm GE119)):w.heap.size≤gb120));have n5_:=ak ((by rw [hg];exact Nat.ne_of_lt (blk_lt (g:=gb119) (o:= .cells #[.int .i64 a0_0,.int .i64 a0_1,.int .i64 a0_2,.slice A0_3 l0_3.length c0_3,.int .i64 a0_4,.int .i64 a0_5,.int .i64 a0_6,.slice A0_7 l0_7.length c0_7] 47 (0,0)) (bk BK119)):gb119≠gb120));have n6_:=ak ((by rw [hg];exact Nat.ne_of_gt (blk_lt (g:=gb119) (o:= .cells #[.int .i64 a0_0,.int .i64 a0_1,.int .i64 a0_2,.slice A0_3 l0_3.length c0_3,.int .i64 a0_4,.int .i64 a0_5,.int .i64 a0_6,.slice A0_7 l0_7.length c0_7] 47 (0,0)) (bk BK119)):gb120≠gb119));clear BK119;clear HB;have BK119:=n0_;have HB:=n1_;have BK120:=n2_;have GW120:=n3_;have GE120:=n4_;have NB119_120:=n5_;have NB120_119:=n6_;clear n0_ n1_ n2_ n3_ n4_ n5_ n6_;clear hb hbox hg))
 (try simp only [Act.put,List.setIfInBounds_toArray,List.set_cons_zero,List.set_cons_succ])
 go_cut [44] (fun v44 wc=>∃ (kq:Nat) (x44_2:Bool),v44= .bool x44_2∧Aside0 (zSameIns.j0 kq x44_2 a0_0 a0_1 a0_2 l0_3 a0_4 a0_5 a0_6 l0_7 a1_0 a1_1 a1_2 l1_3 a1_4 a1_5 a1_6 l1_7=some r)∧Aside0 (kq≤k)∧Aside0 (wc.heap[gb119]? =some (.cells #[.int .i64 a0_0,.int .i64 a0_1,.int .i64 a0_2,(.slice A0_3 l0_3.length c0_3),.int .i64 a0_4,.int .i64 a0_5,.int .i64 a0_6,(.slice A0_7 l0_7.length c0_7)] 47 (0,0)))∧Aside0 (wc.heap[gb120]? =some (.cells #[.int .i64 a1_0,.int .i64 a1_1,.int .i64 a1_2,(.slice A1_3 l1_3.length c1_3),.int .i64 a1_4,.int .i64 a1_5,.int .i64 a1_6,(.slice A1_7 l1_7.length c1_7)] 47 (0,0)))∧Aside0 (Below w.heap.size w wc))
 case first =>
  have H:=HC3.out;clear HC3
  by_cases c6:a0_0=a1_0
  ·rw [if_pos c6] at H;have c6b0:(a0_0==a1_0)=true:=beq_iff_eq.mpr c6;have c6b1:(a0_0 != a1_0)=false:=bne_eq_false_iff_eq.mpr c6;clear c6
   (first |rw [c6b0] |(simp only [i64_w,i32_w];rw [c6b0]) |skip)
   by_cases c7:a0_1=a1_1
   ·rw [if_pos c7] at H;have c7b0:(a0_1==a1_1)=true:=beq_iff_eq.mpr c7;have c7b1:(a0_1 != a1_1)=false:=bne_eq_false_iff_eq.mpr c7;clear c7
    by_cases c8:a0_2=a1_2
    ·rw [if_pos c8] at H;have c8b0:(a0_2==a1_2)=true:=beq_iff_eq.mpr c8;have c8b1:(a0_2 != a1_2)=false:=bne_eq_false_iff_eq.mpr c8;clear c8
     by_cases c9:a0_4=a1_4
     ·rw [if_pos c9] at H;have c9b0:(a0_4==a1_4)=true:=beq_iff_eq.mpr c9;have c9b1:(a0_4 != a1_4)=false:=bne_eq_false_iff_eq.mpr c9;clear c9
      by_cases c10:a0_5=a1_5
      ·rw [if_pos c10] at H;have c10b0:(a0_5==a1_5)=true:=beq_iff_eq.mpr c10;have c10b1:(a0_5 != a1_5)=false:=bne_eq_false_iff_eq.mpr c10;clear c10;have H':=ak H;clear H;have hnb11:=NB119_120.out;have hnc11:=NB120_119.out;have hcz12_0:w5.cell? ⟨gb119,0,none⟩=some (.int .i64 a0_0):=qj BK119 0;have hcz12_1:w5.cell? ⟨gb119,1,none⟩=some (.int .i64 a0_1):=qj BK119 1;have hcz12_2:w5.cell? ⟨gb119,2,none⟩=some (.int .i64 a0_2):=qj BK119 2;have hcz12_3:w5.cell? ⟨gb119,3,none⟩=some (.slice A0_3 l0_3.length c0_3):=qj BK119 3
       have hcz12_4:w5.cell? ⟨gb119,4,none⟩=some (.int .i64 a0_4):=qj BK119 4;have hcz12_5:w5.cell? ⟨gb119,5,none⟩=some (.int .i64 a0_5):=qj BK119 5;have hcz12_6:w5.cell? ⟨gb119,6,none⟩=some (.int .i64 a0_6):=qj BK119 6;have hcz12_7:w5.cell? ⟨gb119,7,none⟩=some (.slice A0_7 l0_7.length c0_7):=qj BK119 7;have hfz12_0:=ql BK119 0;have hfz12_1:=ql BK119 1;have hfz12_2:=ql BK119 2;have hfz12_3:=ql BK119 3;have hfz12_4:=ql BK119 4;have hfz12_5:=ql BK119 5;have hfz12_6:=ql BK119 6;have hfz12_7:=ql BK119 7
       have hcz13_0:w5.cell? ⟨gb120,0,none⟩=some (.int .i64 a1_0):=qj BK120 0;have hcz13_1:w5.cell? ⟨gb120,1,none⟩=some (.int .i64 a1_1):=qj BK120 1;have hcz13_2:w5.cell? ⟨gb120,2,none⟩=some (.int .i64 a1_2):=qj BK120 2;have hcz13_3:w5.cell? ⟨gb120,3,none⟩=some (.slice A1_3 l1_3.length c1_3):=qj BK120 3;have hcz13_4:w5.cell? ⟨gb120,4,none⟩=some (.int .i64 a1_4):=qj BK120 4;have hcz13_5:w5.cell? ⟨gb120,5,none⟩=some (.int .i64 a1_5):=qj BK120 5;have hcz13_6:w5.cell? ⟨gb120,6,none⟩=some (.int .i64 a1_6):=qj BK120 6
       have hcz13_7:w5.cell? ⟨gb120,7,none⟩=some (.slice A1_7 l1_7.length c1_7):=qj BK120 7;have hfz13_0:=ql BK120 0;have hfz13_1:=ql BK120 1;have hfz13_2:=ql BK120 2;have hfz13_3:=ql BK120 3;have hfz13_4:=ql BK120 4;have hfz13_5:=ql BK120 5;have hfz13_6:=ql BK120 6;have hfz13_7:=ql BK120 7
       go_wp2
       go_meet
       case rel=>exact ⟨_,((a0_6 != a1_6)),qa,H',⟨by first |omega |exact Nat.le_refl _⟩,⟨bk BK119⟩,⟨bk BK120⟩,⟨by repeat (first |(with_reducible first |exact HB.out |apply below_alloc |apply pw_below_drewN |apply below_drew1 |refine below_set ?_ GE119.out |refine below_set ?_ GE120.out) |exact HB.out)⟩⟩
      ·rw [if_neg c10] at H;have c10b0:(a0_5==a1_5)=false:=beq_eq_false_iff_ne.mpr c10;have c10b1:(a0_5 != a1_5)=true:=bne_iff_ne.mpr c10;have H':=ak H;clear H;have hnb14:=NB119_120.out;have hnc14:=NB120_119.out;have hcz15_0:w5.cell? ⟨gb119,0,none⟩=some (.int .i64 a0_0):=qj BK119 0;have hcz15_1:w5.cell? ⟨gb119,1,none⟩=some (.int .i64 a0_1):=qj BK119 1;have hcz15_2:w5.cell? ⟨gb119,2,none⟩=some (.int .i64 a0_2):=qj BK119 2;have hcz15_3:w5.cell? ⟨gb119,3,none⟩=some (.slice A0_3 l0_3.length c0_3):=qj BK119 3
       have hcz15_4:w5.cell? ⟨gb119,4,none⟩=some (.int .i64 a0_4):=qj BK119 4;have hcz15_5:w5.cell? ⟨gb119,5,none⟩=some (.int .i64 a0_5):=qj BK119 5;have hcz15_6:w5.cell? ⟨gb119,6,none⟩=some (.int .i64 a0_6):=qj BK119 6;have hcz15_7:w5.cell? ⟨gb119,7,none⟩=some (.slice A0_7 l0_7.length c0_7):=qj BK119 7;have hfz15_0:=ql BK119 0;have hfz15_1:=ql BK119 1;have hfz15_2:=ql BK119 2;have hfz15_3:=ql BK119 3;have hfz15_4:=ql BK119 4;have hfz15_5:=ql BK119 5;have hfz15_6:=ql BK119 6;have hfz15_7:=ql BK119 7
       have hcz16_0:w5.cell? ⟨gb120,0,none⟩=some (.int .i64 a1_0):=qj BK120 0;have hcz16_1:w5.cell? ⟨gb120,1,none⟩=some (.int .i64 a1_1):=qj BK120 1;have hcz16_2:w5.cell? ⟨gb120,2,none⟩=some (.int .i64 a1_2):=qj BK120 2;have hcz16_3:w5.cell? ⟨gb120,3,none⟩=some (.slice A1_3 l1_3.length c1_3):=qj BK120 3;have hcz16_4:w5.cell? ⟨gb120,4,none⟩=some (.int .i64 a1_4):=qj BK120 4;have hcz16_5:w5.cell? ⟨gb120,5,none⟩=some (.int .i64 a1_5):=qj BK120 5;have hcz16_6:w5.cell? ⟨gb120,6,none⟩=some (.int .i64 a1_6):=qj BK120 6
       have hcz16_7:w5.cell? ⟨gb120,7,none⟩=some (.slice A1_7 l1_7.length c1_7):=qj BK120 7;have hfz16_0:=ql BK120 0;have hfz16_1:=ql BK120 1;have hfz16_2:=ql BK120 2;have hfz16_3:=ql BK120 3;have hfz16_4:=ql BK120 4;have hfz16_5:=ql BK120 5;have hfz16_6:=ql BK120 6;have hfz16_7:=ql BK120 7
       go_wp2
       go_meet
       case rel=>exact ⟨_,(true),qa,H',⟨by first |omega |exact Nat.le_refl _⟩,⟨bk BK119⟩,⟨bk BK120⟩,⟨by repeat (first |(with_reducible first |exact HB.out |apply below_alloc |apply pw_below_drewN |apply below_drew1 |refine below_set ?_ GE119.out |refine below_set ?_ GE120.out) |exact HB.out)⟩⟩
     ·rw [if_neg c9] at H;have c9b0:(a0_4==a1_4)=false:=beq_eq_false_iff_ne.mpr c9;have c9b1:(a0_4 != a1_4)=true:=bne_iff_ne.mpr c9;have H':=ak H;clear H;have hnb17:=NB119_120.out;have hnc17:=NB120_119.out;have hcz18_0:w5.cell? ⟨gb119,0,none⟩=some (.int .i64 a0_0):=qj BK119 0;have hcz18_1:w5.cell? ⟨gb119,1,none⟩=some (.int .i64 a0_1):=qj BK119 1;have hcz18_2:w5.cell? ⟨gb119,2,none⟩=some (.int .i64 a0_2):=qj BK119 2;have hcz18_3:w5.cell? ⟨gb119,3,none⟩=some (.slice A0_3 l0_3.length c0_3):=qj BK119 3
      have hcz18_4:w5.cell? ⟨gb119,4,none⟩=some (.int .i64 a0_4):=qj BK119 4;have hcz18_5:w5.cell? ⟨gb119,5,none⟩=some (.int .i64 a0_5):=qj BK119 5;have hcz18_6:w5.cell? ⟨gb119,6,none⟩=some (.int .i64 a0_6):=qj BK119 6;have hcz18_7:w5.cell? ⟨gb119,7,none⟩=some (.slice A0_7 l0_7.length c0_7):=qj BK119 7;have hfz18_0:=ql BK119 0;have hfz18_1:=ql BK119 1;have hfz18_2:=ql BK119 2;have hfz18_3:=ql BK119 3;have hfz18_4:=ql BK119 4;have hfz18_5:=ql BK119 5;have hfz18_6:=ql BK119 6;have hfz18_7:=ql BK119 7
      have hcz19_0:w5.cell? ⟨gb120,0,none⟩=some (.int .i64 a1_0):=qj BK120 0;have hcz19_1:w5.cell? ⟨gb120,1,none⟩=some (.int .i64 a1_1):=qj BK120 1;have hcz19_2:w5.cell? ⟨gb120,2,none⟩=some (.int .i64 a1_2):=qj BK120 2;have hcz19_3:w5.cell? ⟨gb120,3,none⟩=some (.slice A1_3 l1_3.length c1_3):=qj BK120 3;have hcz19_4:w5.cell? ⟨gb120,4,none⟩=some (.int .i64 a1_4):=qj BK120 4;have hcz19_5:w5.cell? ⟨gb120,5,none⟩=some (.int .i64 a1_5):=qj BK120 5;have hcz19_6:w5.cell? ⟨gb120,6,none⟩=some (.int .i64 a1_6):=qj BK120 6
      have hcz19_7:w5.cell? ⟨gb120,7,none⟩=some (.slice A1_7 l1_7.length c1_7):=qj BK120 7;have hfz19_0:=ql BK120 0;have hfz19_1:=ql BK120 1;have hfz19_2:=ql BK120 2;have hfz19_3:=ql BK120 3;have hfz19_4:=ql BK120 4;have hfz19_5:=ql BK120 5;have hfz19_6:=ql BK120 6;have hfz19_7:=ql BK120 7
      go_wp2
      go_meet
      case rel=>exact ⟨_,(true),qa,H',⟨by first |omega |exact Nat.le_refl _⟩,⟨bk BK119⟩,⟨bk BK120⟩,⟨by repeat (first |(with_reducible first |exact HB.out |apply below_alloc |apply pw_below_drewN |apply below_drew1 |refine below_set ?_ GE119.out |refine below_set ?_ GE120.out) |exact HB.out)⟩⟩
    ·rw [if_neg c8] at H;have c8b0:(a0_2==a1_2)=false:=beq_eq_false_iff_ne.mpr c8;have c8b1:(a0_2 != a1_2)=true:=bne_iff_ne.mpr c8;have H':=ak H;clear H;have hnb20:=NB119_120.out;have hnc20:=NB120_119.out;have hcz21_0:w5.cell? ⟨gb119,0,none⟩=some (.int .i64 a0_0):=qj BK119 0;have hcz21_1:w5.cell? ⟨gb119,1,none⟩=some (.int .i64 a0_1):=qj BK119 1;have hcz21_2:w5.cell? ⟨gb119,2,none⟩=some (.int .i64 a0_2):=qj BK119 2;have hcz21_3:w5.cell? ⟨gb119,3,none⟩=some (.slice A0_3 l0_3.length c0_3):=qj BK119 3
     have hcz21_4:w5.cell? ⟨gb119,4,none⟩=some (.int .i64 a0_4):=qj BK119 4;have hcz21_5:w5.cell? ⟨gb119,5,none⟩=some (.int .i64 a0_5):=qj BK119 5;have hcz21_6:w5.cell? ⟨gb119,6,none⟩=some (.int .i64 a0_6):=qj BK119 6;have hcz21_7:w5.cell? ⟨gb119,7,none⟩=some (.slice A0_7 l0_7.length c0_7):=qj BK119 7;have hfz21_0:=ql BK119 0;have hfz21_1:=ql BK119 1;have hfz21_2:=ql BK119 2;have hfz21_3:=ql BK119 3;have hfz21_4:=ql BK119 4;have hfz21_5:=ql BK119 5;have hfz21_6:=ql BK119 6;have hfz21_7:=ql BK119 7
     have hcz22_0:w5.cell? ⟨gb120,0,none⟩=some (.int .i64 a1_0):=qj BK120 0;have hcz22_1:w5.cell? ⟨gb120,1,none⟩=some (.int .i64 a1_1):=qj BK120 1;have hcz22_2:w5.cell? ⟨gb120,2,none⟩=some (.int .i64 a1_2):=qj BK120 2;have hcz22_3:w5.cell? ⟨gb120,3,none⟩=some (.slice A1_3 l1_3.length c1_3):=qj BK120 3;have hcz22_4:w5.cell? ⟨gb120,4,none⟩=some (.int .i64 a1_4):=qj BK120 4;have hcz22_5:w5.cell? ⟨gb120,5,none⟩=some (.int .i64 a1_5):=qj BK120 5;have hcz22_6:w5.cell? ⟨gb120,6,none⟩=some (.int .i64 a1_6):=qj BK120 6
     have hcz22_7:w5.cell? ⟨gb120,7,none⟩=some (.slice A1_7 l1_7.length c1_7):=qj BK120 7;have hfz22_0:=ql BK120 0;have hfz22_1:=ql BK120 1;have hfz22_2:=ql BK120 2;have hfz22_3:=ql BK120 3;have hfz22_4:=ql BK120 4;have hfz22_5:=ql BK120 5;have hfz22_6:=ql BK120 6;have hfz22_7:=ql BK120 7
     go_wp2
     go_meet
     case rel=>exact ⟨_,(true),qa,H',⟨by first |omega |exact Nat.le_refl _⟩,⟨bk BK119⟩,⟨bk BK120⟩,⟨by repeat (first |(with_reducible first |exact HB.out |apply below_alloc |apply pw_below_drewN |apply below_drew1 |refine below_set ?_ GE119.out |refine below_set ?_ GE120.out) |exact HB.out)⟩⟩
   ·rw [if_neg c7] at H;have c7b0:(a0_1==a1_1)=false:=beq_eq_false_iff_ne.mpr c7;have c7b1:(a0_1 != a1_1)=true:=bne_iff_ne.mpr c7;have H':=ak H;clear H;have hnb23:=NB119_120.out;have hnc23:=NB120_119.out;have hcz24_0:w5.cell? ⟨gb119,0,none⟩=some (.int .i64 a0_0):=qj BK119 0;have hcz24_1:w5.cell? ⟨gb119,1,none⟩=some (.int .i64 a0_1):=qj BK119 1;have hcz24_2:w5.cell? ⟨gb119,2,none⟩=some (.int .i64 a0_2):=qj BK119 2;have hcz24_3:w5.cell? ⟨gb119,3,none⟩=some (.slice A0_3 l0_3.length c0_3):=qj BK119 3
    have hcz24_4:w5.cell? ⟨gb119,4,none⟩=some (.int .i64 a0_4):=qj BK119 4;have hcz24_5:w5.cell? ⟨gb119,5,none⟩=some (.int .i64 a0_5):=qj BK119 5;have hcz24_6:w5.cell? ⟨gb119,6,none⟩=some (.int .i64 a0_6):=qj BK119 6;have hcz24_7:w5.cell? ⟨gb119,7,none⟩=some (.slice A0_7 l0_7.length c0_7):=qj BK119 7;have hfz24_0:=ql BK119 0;have hfz24_1:=ql BK119 1;have hfz24_2:=ql BK119 2;have hfz24_3:=ql BK119 3;have hfz24_4:=ql BK119 4;have hfz24_5:=ql BK119 5;have hfz24_6:=ql BK119 6;have hfz24_7:=ql BK119 7
    have hcz25_0:w5.cell? ⟨gb120,0,none⟩=some (.int .i64 a1_0):=qj BK120 0;have hcz25_1:w5.cell? ⟨gb120,1,none⟩=some (.int .i64 a1_1):=qj BK120 1;have hcz25_2:w5.cell? ⟨gb120,2,none⟩=some (.int .i64 a1_2):=qj BK120 2;have hcz25_3:w5.cell? ⟨gb120,3,none⟩=some (.slice A1_3 l1_3.length c1_3):=qj BK120 3;have hcz25_4:w5.cell? ⟨gb120,4,none⟩=some (.int .i64 a1_4):=qj BK120 4;have hcz25_5:w5.cell? ⟨gb120,5,none⟩=some (.int .i64 a1_5):=qj BK120 5;have hcz25_6:w5.cell? ⟨gb120,6,none⟩=some (.int .i64 a1_6):=qj BK120 6
    have hcz25_7:w5.cell? ⟨gb120,7,none⟩=some (.slice A1_7 l1_7.length c1_7):=qj BK120 7;have hfz25_0:=ql BK120 0;have hfz25_1:=ql BK120 1;have hfz25_2:=ql BK120 2;have hfz25_3:=ql BK120 3;have hfz25_4:=ql BK120 4;have hfz25_5:=ql BK120 5;have hfz25_6:=ql BK120 6;have hfz25_7:=ql BK120 7
    go_wp2
    go_meet
    case rel=>exact ⟨_,(true),qa,H',⟨by first |omega |exact Nat.le_refl _⟩,⟨bk BK119⟩,⟨bk BK120⟩,⟨by repeat (first |(with_reducible first |exact HB.out |apply below_alloc |apply pw_below_drewN |apply below_drew1 |refine below_set ?_ GE119.out |refine below_set ?_ GE120.out) |exact HB.out)⟩⟩
  ·rw [if_neg c6] at H;have c6b0:(a0_0==a1_0)=false:=beq_eq_false_iff_ne.mpr c6;have c6b1:(a0_0 != a1_0)=true:=bne_iff_ne.mpr c6
   (first |rw [c6b0] |(simp only [i64_w,i32_w];rw [c6b0]) |skip)
   have H':=ak H;clear H;have hnb26:=NB119_120.out;have hnc26:=NB120_119.out;have hcz27_0:w5.cell? ⟨gb119,0,none⟩=some (.int .i64 a0_0):=qj BK119 0;have hcz27_1:w5.cell? ⟨gb119,1,none⟩=some (.int .i64 a0_1):=qj BK119 1;have hcz27_2:w5.cell? ⟨gb119,2,none⟩=some (.int .i64 a0_2):=qj BK119 2;have hcz27_3:w5.cell? ⟨gb119,3,none⟩=some (.slice A0_3 l0_3.length c0_3):=qj BK119 3;have hcz27_4:w5.cell? ⟨gb119,4,none⟩=some (.int .i64 a0_4):=qj BK119 4;have hcz27_5:w5.cell? ⟨gb119,5,none⟩=some (.int .i64 a0_5):=qj BK119 5
   have hcz27_6:w5.cell? ⟨gb119,6,none⟩=some (.int .i64 a0_6):=qj BK119 6;have hcz27_7:w5.cell? ⟨gb119,7,none⟩=some (.slice A0_7 l0_7.length c0_7):=qj BK119 7;have hfz27_0:=ql BK119 0;have hfz27_1:=ql BK119 1;have hfz27_2:=ql BK119 2;have hfz27_3:=ql BK119 3;have hfz27_4:=ql BK119 4;have hfz27_5:=ql BK119 5;have hfz27_6:=ql BK119 6;have hfz27_7:=ql BK119 7;have hcz28_0:w5.cell? ⟨gb120,0,none⟩=some (.int .i64 a1_0):=qj BK120 0;have hcz28_1:w5.cell? ⟨gb120,1,none⟩=some (.int .i64 a1_1):=qj BK120 1
   have hcz28_2:w5.cell? ⟨gb120,2,none⟩=some (.int .i64 a1_2):=qj BK120 2;have hcz28_3:w5.cell? ⟨gb120,3,none⟩=some (.slice A1_3 l1_3.length c1_3):=qj BK120 3;have hcz28_4:w5.cell? ⟨gb120,4,none⟩=some (.int .i64 a1_4):=qj BK120 4;have hcz28_5:w5.cell? ⟨gb120,5,none⟩=some (.int .i64 a1_5):=qj BK120 5;have hcz28_6:w5.cell? ⟨gb120,6,none⟩=some (.int .i64 a1_6):=qj BK120 6;have hcz28_7:w5.cell? ⟨gb120,7,none⟩=some (.slice A1_7 l1_7.length c1_7):=qj BK120 7;have hfz28_0:=ql BK120 0;have hfz28_1:=ql BK120 1;have hfz28_2:=ql BK120 2
   have hfz28_3:=ql BK120 3;have hfz28_4:=ql BK120 4;have hfz28_5:=ql BK120 5;have hfz28_6:=ql BK120 6;have hfz28_7:=ql BK120 7
   go_wp2
   go_meet
   case rel=>exact ⟨_,(true),qa,H',⟨by first |omega |exact Nat.le_refl _⟩,⟨bk BK119⟩,⟨bk BK120⟩,⟨by repeat (first |(with_reducible first |exact HB.out |apply below_alloc |apply pw_below_drewN |apply below_drew1 |refine below_set ?_ GE119.out |refine below_set ?_ GE120.out) |exact HB.out)⟩⟩
 case rest =>
  clear HC3
  try clear c1
  try clear c2
  try clear p2
  try clear c3
  try clear c6
  try clear c6b0
  try clear c6b1
  try clear c7
  try clear c7b0
  try clear c7b1
  try clear c8
  try clear c8b0
  try clear c8b1
  try clear c9
  try clear c9b0
  try clear c9b1
  try clear c10
  try clear c10b0
  try clear c10b1
  try clear c11
  try clear c14
  try clear c17
  try clear c20
  try clear c23
  try clear c26
  try clear hcz12_0
  try clear hcz12_1
  try clear hcz12_2
  try clear hcz12_3
  try clear hcz12_4
  try clear hcz12_5
  try clear hcz12_6
  try clear hcz12_7
  try clear hcz13_0
  try clear hcz13_1
  try clear hcz13_2
  try clear hcz13_3
  try clear hcz13_4
  try clear hcz13_5
  try clear hcz13_6
  try clear hcz13_7
  try clear hcz15_0
  try clear hcz15_1
  try clear hcz15_2
  try clear hcz15_3
  try clear hcz15_4
  try clear hcz15_5
  try clear hcz15_6
  try clear hcz15_7
  try clear hcz16_0
  try clear hcz16_1
  try clear hcz16_2
  try clear hcz16_3
  try clear hcz16_4
  try clear hcz16_5
  try clear hcz16_6
  try clear hcz16_7
  try clear hcz18_0
  try clear hcz18_1
  try clear hcz18_2
  try clear hcz18_3
  try clear hcz18_4
  try clear hcz18_5
  try clear hcz18_6
  try clear hcz18_7
  try clear hcz19_0
  try clear hcz19_1
  try clear hcz19_2
  try clear hcz19_3
  try clear hcz19_4
  try clear hcz19_5
  try clear hcz19_6
  try clear hcz19_7
  try clear hcz21_0
  try clear hcz21_1
  try clear hcz21_2
  try clear hcz21_3
  try clear hcz21_4
  try clear hcz21_5
  try clear hcz21_6
  try clear hcz21_7
  try clear hcz22_0
  try clear hcz22_1
  try clear hcz22_2
  try clear hcz22_3
  try clear hcz22_4
  try clear hcz22_5
  try clear hcz22_6
  try clear hcz22_7
  try clear hcz24_0
  try clear hcz24_1
  try clear hcz24_2
  try clear hcz24_3
  try clear hcz24_4
  try clear hcz24_5
  try clear hcz24_6
  try clear hcz24_7
  try clear hcz25_0
  try clear hcz25_1
  try clear hcz25_2
  try clear hcz25_3
  try clear hcz25_4
  try clear hcz25_5
  try clear hcz25_6
  try clear hcz25_7
  try clear hcz27_0
  try clear hcz27_1
  try clear hcz27_2
  try clear hcz27_3
  try clear hcz27_4
  try clear hcz27_5
  try clear hcz27_6
  try clear hcz27_7
  try clear hcz28_0
  try clear hcz28_1
  try clear hcz28_2
  try clear hcz28_3
  try clear hcz28_4
  try clear hcz28_5
  try clear hcz28_6
  try clear hcz28_7
  try clear hfz12_0
  try clear hfz12_1
  try clear hfz12_2
  try clear hfz12_3
  try clear hfz12_4
  try clear hfz12_5
  try clear hfz12_6
  try clear hfz12_7
  try clear hfz13_0
  try clear hfz13_1
  try clear hfz13_2
  try clear hfz13_3
  try clear hfz13_4
  try clear hfz13_5
  try clear hfz13_6
  try clear hfz13_7
  try clear hfz15_0
  try clear hfz15_1
  try clear hfz15_2
  try clear hfz15_3
  try clear hfz15_4
  try clear hfz15_5
  try clear hfz15_6
  try clear hfz15_7
  try clear hfz16_0
  try clear hfz16_1
  try clear hfz16_2
  try clear hfz16_3
  try clear hfz16_4
  try clear hfz16_5
  try clear hfz16_6
  try clear hfz16_7
  try clear hfz18_0
  try clear hfz18_1
  try clear hfz18_2
  try clear hfz18_3
  try clear hfz18_4
  try clear hfz18_5
  try clear hfz18_6
  try clear hfz18_7
  try clear hfz19_0
  try clear hfz19_1
  try clear hfz19_2
  try clear hfz19_3
  try clear hfz19_4
  try clear hfz19_5
  try clear hfz19_6
  try clear hfz19_7
  try clear hfz21_0
  try clear hfz21_1
  try clear hfz21_2
  try clear hfz21_3
  try clear hfz21_4
  try clear hfz21_5
  try clear hfz21_6
  try clear hfz21_7
  try clear hfz22_0
  try clear hfz22_1
  try clear hfz22_2
  try clear hfz22_3
  try clear hfz22_4
  try clear hfz22_5
  try clear hfz22_6
  try clear hfz22_7
  try clear hfz24_0
  try clear hfz24_1
  try clear hfz24_2
  try clear hfz24_3
  try clear hfz24_4
  try clear hfz24_5
  try clear hfz24_6
  try clear hfz24_7
  try clear hfz25_0
  try clear hfz25_1
  try clear hfz25_2
  try clear hfz25_3
  try clear hfz25_4
  try clear hfz25_5
  try clear hfz25_6
  try clear hfz25_7
  try clear hfz27_0
  try clear hfz27_1
  try clear hfz27_2
  try clear hfz27_3
  try clear hfz27_4
  try clear hfz27_5
  try clear hfz27_6
  try clear hfz27_7
  try clear hfz28_0
  try clear hfz28_1
  try clear hfz28_2
  try clear hfz28_3
  try clear hfz28_4
  try clear hfz28_5
  try clear hfz28_6
  try clear hfz28_7
  obtain ⟨kq,x44_2,rfl,HA,HJ2,BK119,BK120,HB⟩:=hcut;cases kq with
  |zero=>exact absurd HA.out (by simp [zSameIns.j0])
  |succ kj2 =>
   have H:=HA.out;clear HA;simp only [zSameIns.j0] at H
   by_cases c29:x44_2=true
   ·subst c29;have H1:(some false)=some r:=by rw [if_pos rfl] at H;exact H
    clear H;have H:=H1;clear H1;obtain rfl:=Option.some.inj H
    go_wp2
    go_ret
    exact ⟨by first |rfl |(simp [errW_none,errW_some]<;>rfl) |(simp [*,errW_none,errW_some]<;>rfl),by repeat (first |(with_reducible first |exact HB.out |apply below_alloc |apply pw_below_drewN |apply below_drew1 |refine below_set ?_ GE119.out |refine below_set ?_ GE120.out) |exact HB.out)⟩
   ·replace c29:=Bool.eq_false_iff.mpr c29;subst c29;have H1:((zSameOpnds.f kj2 l0_3 l1_3).bind fun t121=>(if t121=true then ((zSameShapes.f kj2 l0_7 l1_7).bind fun t122=>(some t122)) else (some false)))=some r:=by rw [if_neg (show ¬ (false=true) by decide)] at H;exact H
    clear H;have H:=H1;clear H1;replace H:=Option.bind_eq_some_iff.mp H;obtain ⟨t121,A300,H⟩:=H;replace H:(if t121=true then ((zSameShapes.f kj2 l0_7 l1_7).bind fun t122=>(some t122)) else (some false))=some r:=H;have A30:=ak A300;clear A300
    by_cases c31:t121=true
    ·subst c31;have H1:((zSameShapes.f kj2 l0_7 l1_7).bind fun t122=>(some t122))=some r:=by rw [if_pos rfl] at H;exact H
     clear H;have H:=H1;clear H1;replace H:=Option.bind_eq_some_iff.mp H;obtain ⟨t122,A320,H⟩:=H;replace H:(some t122)=some r:=H;have A32:=ak A320;clear A320;obtain rfl:=Option.some.inj H;have hnb33:=NB119_120.out;have hnc33:=NB120_119.out;have hcz34_0:wc.cell? ⟨gb119,0,none⟩=some (.int .i64 a0_0):=qj BK119 0;have hcz34_1:wc.cell? ⟨gb119,1,none⟩=some (.int .i64 a0_1):=qj BK119 1;have hcz34_2:wc.cell? ⟨gb119,2,none⟩=some (.int .i64 a0_2):=qj BK119 2;have hcz34_3:wc.cell? ⟨gb119,3,none⟩=some (.slice A0_3 l0_3.length c0_3):=qj BK119 3
     have hcz34_4:wc.cell? ⟨gb119,4,none⟩=some (.int .i64 a0_4):=qj BK119 4;have hcz34_5:wc.cell? ⟨gb119,5,none⟩=some (.int .i64 a0_5):=qj BK119 5;have hcz34_6:wc.cell? ⟨gb119,6,none⟩=some (.int .i64 a0_6):=qj BK119 6;have hcz34_7:wc.cell? ⟨gb119,7,none⟩=some (.slice A0_7 l0_7.length c0_7):=qj BK119 7;have hfz34_0:=ql BK119 0;have hfz34_1:=ql BK119 1;have hfz34_2:=ql BK119 2;have hfz34_3:=ql BK119 3;have hfz34_4:=ql BK119 4;have hfz34_5:=ql BK119 5;have hfz34_6:=ql BK119 6;have hfz34_7:=ql BK119 7
     have hcz35_0:wc.cell? ⟨gb120,0,none⟩=some (.int .i64 a1_0):=qj BK120 0;have hcz35_1:wc.cell? ⟨gb120,1,none⟩=some (.int .i64 a1_1):=qj BK120 1;have hcz35_2:wc.cell? ⟨gb120,2,none⟩=some (.int .i64 a1_2):=qj BK120 2;have hcz35_3:wc.cell? ⟨gb120,3,none⟩=some (.slice A1_3 l1_3.length c1_3):=qj BK120 3;have hcz35_4:wc.cell? ⟨gb120,4,none⟩=some (.int .i64 a1_4):=qj BK120 4;have hcz35_5:wc.cell? ⟨gb120,5,none⟩=some (.int .i64 a1_5):=qj BK120 5;have hcz35_6:wc.cell? ⟨gb120,6,none⟩=some (.int .i64 a1_6):=qj BK120 6
     have hcz35_7:wc.cell? ⟨gb120,7,none⟩=some (.slice A1_7 l1_7.length c1_7):=qj BK120 7;have hfz35_0:=ql BK120 0;have hfz35_1:=ql BK120 1;have hfz35_2:=ql BK120 2;have hfz35_3:=ql BK120 3;have hfz35_4:=ql BK120 4;have hfz35_5:=ql BK120 5;have hfz35_6:=ql BK120 6;have hfz35_7:=ql BK120 7
     go_wp2_with (first |((with_reducible refine gate_callee (f:=59) rfl ?_);refine goesL_ (some 49) rfl rfl Try.func59 (by kernel_rfl) rfl #[.slice A0_3 l0_3.length c0_3,.slice A1_3 l1_3.length c1_3] rfl qc ?_;(with_reducible refine (zSameOpnds.calls kj2 _ _ l0_3 _ _ l1_3 true _ ?side1 ?side2 ?side3 ?side4 A30.out).mono ?_);(case side1=>exact qh (Kd.C_below HR0_3.out HB.out));(case side2=>exact HC0_3.out);(case side3=>exact qh (Kd.C_below HR1_3.out HB.out));(case side4=>exact HC1_3.out);rintro e w' ⟨rfl,⟨nd,rfl⟩⟩;refine ⟨_,rfl,?_⟩) |(go_at_call 60;(with_reducible refine (zSameShapes.calls kj2 _ _ l0_7 _ _ l1_7 t122 _ ?side1 ?side2 ?side3 ?side4 A32.out).mono ?_);(case side1=>exact qh (Kd.C_below HR0_7.out (qg GE119 GE120)));(case side2=>exact HC0_7.out);(case side3=>exact qh (Kd.C_below HR1_7.out (qg GE119 GE120)));(case side4=>exact HC1_7.out);rintro e w36 ⟨rfl,hb⟩;have n0_:=ak (blk_below (g:=gb119) (o:= .cells #[.int .i64 a0_0,.int .i64 a0_1,.int .i64 a0_2,.slice A0_3 l0_3.length c0_3,.int .i64 a0_4,.int .i64 a0_5,.int .i64 a0_6,.slice A0_7 l0_7.length c0_7] 47 (0,0)) (bk BK119) hb);have n1_:=ak (blk_below (g:=gb120) (o:= .cells #[.int .i64 a1_0,.int .i64 a1_1,.int .i64 a1_2,.slice A1_3 l1_3.length c1_3,.int .i64 a1_4,.int .i64 a1_5,.int .i64 a1_6,.slice A1_7 l1_7.length c1_7] 47 (0,0)) (bk BK120) hb);have n2_:=ak (below_step (qg GE119 GE120) hb);clear BK119;clear BK120;clear HB;have BK119:=n0_;have BK120:=n1_;have HB:=n2_;clear n0_ n1_ n2_;(try clear hb);(try clear hb2);(try clear hk);(try clear hi)))
     go_ret
     exact ⟨by first |rfl |(simp [errW_none,errW_some]<;>rfl) |(simp [*,errW_none,errW_some]<;>rfl),by repeat (first |(with_reducible first |exact HB.out |apply below_alloc |apply pw_below_drewN |apply below_drew1 |refine below_set ?_ GE119.out |refine below_set ?_ GE120.out) |exact HB.out)⟩
    ·replace c31:=Bool.eq_false_iff.mpr c31;subst c31;have H1:(some false)=some r:=by rw [if_neg (show ¬ (false=true) by decide)] at H;exact H
     clear H;have H:=H1;clear H1;obtain rfl:=Option.some.inj H;have hnb37:=NB119_120.out;have hnc37:=NB120_119.out;have hcz38_0:wc.cell? ⟨gb119,0,none⟩=some (.int .i64 a0_0):=qj BK119 0;have hcz38_1:wc.cell? ⟨gb119,1,none⟩=some (.int .i64 a0_1):=qj BK119 1;have hcz38_2:wc.cell? ⟨gb119,2,none⟩=some (.int .i64 a0_2):=qj BK119 2;have hcz38_3:wc.cell? ⟨gb119,3,none⟩=some (.slice A0_3 l0_3.length c0_3):=qj BK119 3;have hcz38_4:wc.cell? ⟨gb119,4,none⟩=some (.int .i64 a0_4):=qj BK119 4
     have hcz38_5:wc.cell? ⟨gb119,5,none⟩=some (.int .i64 a0_5):=qj BK119 5;have hcz38_6:wc.cell? ⟨gb119,6,none⟩=some (.int .i64 a0_6):=qj BK119 6;have hcz38_7:wc.cell? ⟨gb119,7,none⟩=some (.slice A0_7 l0_7.length c0_7):=qj BK119 7;have hfz38_0:=ql BK119 0;have hfz38_1:=ql BK119 1;have hfz38_2:=ql BK119 2;have hfz38_3:=ql BK119 3;have hfz38_4:=ql BK119 4;have hfz38_5:=ql BK119 5;have hfz38_6:=ql BK119 6;have hfz38_7:=ql BK119 7;have hcz39_0:wc.cell? ⟨gb120,0,none⟩=some (.int .i64 a1_0):=qj BK120 0
     have hcz39_1:wc.cell? ⟨gb120,1,none⟩=some (.int .i64 a1_1):=qj BK120 1;have hcz39_2:wc.cell? ⟨gb120,2,none⟩=some (.int .i64 a1_2):=qj BK120 2;have hcz39_3:wc.cell? ⟨gb120,3,none⟩=some (.slice A1_3 l1_3.length c1_3):=qj BK120 3;have hcz39_4:wc.cell? ⟨gb120,4,none⟩=some (.int .i64 a1_4):=qj BK120 4;have hcz39_5:wc.cell? ⟨gb120,5,none⟩=some (.int .i64 a1_5):=qj BK120 5;have hcz39_6:wc.cell? ⟨gb120,6,none⟩=some (.int .i64 a1_6):=qj BK120 6;have hcz39_7:wc.cell? ⟨gb120,7,none⟩=some (.slice A1_7 l1_7.length c1_7):=qj BK120 7
     have hfz39_0:=ql BK120 0;have hfz39_1:=ql BK120 1;have hfz39_2:=ql BK120 2;have hfz39_3:=ql BK120 3;have hfz39_4:=ql BK120 4;have hfz39_5:=ql BK120 5;have hfz39_6:=ql BK120 6;have hfz39_7:=ql BK120 7
     go_wp2_with (first |((with_reducible refine gate_callee (f:=59) rfl ?_);refine goesL_ (some 49) rfl rfl Try.func59 (by kernel_rfl) rfl #[.slice A0_3 l0_3.length c0_3,.slice A1_3 l1_3.length c1_3] rfl qc ?_;(with_reducible refine (zSameOpnds.calls kj2 _ _ l0_3 _ _ l1_3 false _ ?side1 ?side2 ?side3 ?side4 A30.out).mono ?_);(case side1=>exact qh (Kd.C_below HR0_3.out HB.out));(case side2=>exact HC0_3.out);(case side3=>exact qh (Kd.C_below HR1_3.out HB.out));(case side4=>exact HC1_3.out);rintro e w' ⟨rfl,⟨nd,rfl⟩⟩;refine ⟨_,rfl,?_⟩))
     go_ret
     exact ⟨by first |rfl |(simp [errW_none,errW_some]<;>rfl) |(simp [*,errW_none,errW_some]<;>rfl),by repeat (first |(with_reducible first |exact HB.out |apply below_alloc |apply pw_below_drewN |apply below_drew1 |refine below_set ?_ GE119.out |refine below_set ?_ GE120.out) |exact HB.out)⟩
end Go.Proofs.Ytklknkfoafdgpaa.PLiveKnown
