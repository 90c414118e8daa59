import Derived.Test.YtklknkfoafdgpaaPLiveKnownx1
import Derived.Test.YtklknkfoafdgpaaPLiveKnownx2
import Derived.Test.YtklknkfoafdgpaaPLiveKnownx4
import Derived.Test.YtklknkfoafdgpaaPLiveKnownx16
namespace Go.Proofs.Ytklknkfoafdgpaa.PLiveKnown
set_option maxHeartbeats 8000000
set_option maxRecDepth 100000
open RowKit YtklknkfoafdgpaaW.PrintWords YtklknkfoafdgpaaW.PrintLast YtklknkfoafdgpaaW.PrintMore
attribute [local go_sem] max2_int min2_int max_two min_two max_three min_three max_four min_four
set_option linter.unusedVariables false
set_option linter.unusedSimpArgs false
mutual
def ztaken.j0:Nat→List Bool→Bool→Int→List (S47)→List Int→Int→List (S47)→List Int→Option (List Bool×Bool)
 |0,_,_,_,_,_,_,_,_=>none
 |k+1,x6,x25,x352000,x352001,x352002,x353000,x353001,x353002=>if x25=true then (some (x6,false)) else (ztaken.l0 k x6 (wrap64 ((x353001.length:Int)-1)) (wrap64 ((x352001.length:Int)-1)) x352000 x352001 x352002 x353000 x353001 x353002)
def ztaken.l0:Nat→List Bool→Int→Int→Int→List (S47)→List Int→Int→List (S47)→List Int→Option (List Bool×Bool)
 |0,_,_,_,_,_,_,_,_,_=>none
 |k+1,x6,x7,x8,x352000,x352001,x352002,x353000,x353001,x353002=>if x8≥0 then (if x7≥0 then (if 0≤x8 then (if x8<(x352001.length:Int) then (if 0≤x7 then (if x7<(x353001.length:Int) then ((zSameIns.f k ((rd_T47 x352001 x8).f0) ((rd_T47 x352001 x8).f1) ((rd_T47 x352001 x8).f2) ((rd_T47 x352001 x8).f3) ((rd_T47 x352001 x8).f4) ((rd_T47 x352001 x8).f5) ((rd_T47 x352001 x8).f6) ((rd_T47 x352001 x8).f7) ((rd_T47 x353001 x7).f0) ((rd_T47 x353001 x7).f1) ((rd_T47 x353001 x7).f2) ((rd_T47 x353001 x7).f3) ((rd_T47 x353001 x7).f4) ((rd_T47 x353001 x7).f5) ((rd_T47 x353001 x7).f6) ((rd_T47 x353001 x7).f7)).bind fun t359=>(ztaken.j2 k x6 x7 x8 t359 x352000 x352001 x352002 x353000 x353001 x353002)) else (none)) else (none)) else (none)) else (none)) else (ztaken.j2 k x6 x7 x8 false x352000 x352001 x352002 x353000 x353001 x353002)) else (some (x6,decide (x7<0)))
def ztaken.j2:Nat→List Bool→Int→Int→Bool→Int→List (S47)→List Int→Int→List (S47)→List Int→Option (List Bool×Bool)
 |0,_,_,_,_,_,_,_,_,_,_=>none
 |k+1,x6,x7,x8,x53,x352000,x352001,x352002,x353000,x353001,x353002=>if x53=true then (ztaken.l0 k x6 (wrap64 (x7-1)) (wrap64 (x8-1)) x352000 x352001 x352002 x353000 x353001 x353002) else (if 0≤x8 then (if x8<(x352001.length:Int) then ((zquiet.f ((rd_T47 x352001 x8).f0) ((rd_T47 x352001 x8).f1) ((rd_T47 x352001 x8).f2) ((rd_T47 x352001 x8).f3) ((rd_T47 x352001 x8).f4) ((rd_T47 x352001 x8).f5) ((rd_T47 x352001 x8).f6) ((rd_T47 x352001 x8).f7)).bind fun t361=>(if t361=true then (if x8<(x6.length:Int) then (ztaken.l0 k (x6.set (x8:Int).toNat true) x7 (wrap64 (x8-1)) x352000 x352001 x352002 x353000 x353001 x353002) else (none)) else (some (x6,false)))) else (none)) else (none))
end
def ztaken.f (k:Nat) (a0_0:Int) (l0_1:List (S47)) (l0_2:List Int) (a1_0:Int) (l1_1:List (S47)) (l1_2:List Int):Option (List Bool×Bool):=if 0≤(l0_1.length:Int) then (if ((l0_1.length:Int):Int).toNat≤281474976710656 then ((some (List.replicate ((l0_1.length:Int):Int).toNat false:List Bool)).bind fun y353=>(if a1_0=a0_0 then ((zSameInts.f k l1_2 l0_2).bind fun t356=>(ztaken.j0 k y353 (!t356) a0_0 l0_1 l0_2 a1_0 l1_1 l1_2)) else (ztaken.j0 k y353 true a0_0 l0_1 l0_2 a1_0 l1_1 l1_2))) else (none)) else (none)
def ztaken.T8:Bool×List (List Nat×List Nat):=(true,[([],[]),([0],[0]),([1],[1]),([2],[2]),([3,2],[2,3]),([2],[2]),([4,5,2],[2,4,5]),([6,2],[2,6]),([2],[2]),([8,2],[2,8]),([2],[2]),([9,10,2],[2,9,10]),([11,2],[2,11]),([7,12,2,2],[2,7,12]),([2,13],[2,13])])
def ztaken.B8:List Nat:=[0,1,3,7,15,7,63,127,7,263,7,1799,3847,8191,16383]
theorem ztaken.tab8:rtab .any (opsOf Try.f23 8)=ztaken.T8:=by kernel_rfl
theorem ztaken.bits8:waitsOk ztaken.T8.2 ztaken.B8=true:=by kernel_rfl
theorem ztaken.calls (k:Nat) (a0_0:Int) (A0_1:Option Addr) (c0_1:Nat) (l0_1:List (S47)) (A0_2:Option Addr) (c0_2:Nat) (l0_2:List Int) (a1_0:Int) (A1_1:Option Addr) (c1_1:Nat) (l1_1:List (S47)) (A1_2:Option Addr) (c1_2:Nat) (l1_2:List Int) (r1:List Bool) (r2:Bool) (w:World) (hr0_1:Kd.C k47 w A0_1 l0_1.length l0_1) (hc0_1:l0_1.length≤c0_1) (hr0_2:Kd.C (Kd.int .i64) w A0_2 l0_2.length l0_2) (hc0_2:l0_2.length≤c0_2) (hr1_1:Kd.C k47 w A1_1 l1_1.length l1_1) (hc1_1:l1_1.length≤c1_1) (hr1_2:Kd.C (Kd.int .i64) w A1_2 l1_2.length l1_2) (hc1_2:l1_2.length≤c1_2) (h:ztaken.f k a0_0 l0_1 l0_2 a1_0 l1_1 l1_2=some (r1,r2)) :
  Calls Try.prog 23 #[.agg #[.int .i64 a0_0,.slice A0_1 l0_1.length c0_1,.slice A0_2 l0_2.length c0_2],.agg #[.int .i64 a1_0,.slice A1_1 l1_1.length c1_1,.slice A1_2 l1_2.length c1_2]] w fun e w'=>∃ v0_:Value,e= .returned (.tuple #[v0_,.bool r2])∧Kd.R Kd.bool 4 w' w.heap.size (fun _=>True) v0_ r1∧Below w.heap.size w w':=by
 have hu43:=Try.underlying43;have hu47:=Try.underlying47;have HR0_1:=ak hr0_1;have HC0_1:=ak hc0_1;clear hr0_1 hc0_1;have HR0_2:=ak hr0_2;have HC0_2:=ak hc0_2;clear hr0_2 hc0_2;have HR1_1:=ak hr1_1;have HC1_1:=ak hc1_1;clear hr1_1 hc1_1;have HR1_2:=ak hr1_2;have HC1_2:=ak hc1_2;clear hr1_2 hc1_2;have HB:=ak (Below.refl w.heap.size w)
 have H:(if 0≤(l0_1.length:Int) then (if ((l0_1.length:Int):Int).toNat≤281474976710656 then ((some (List.replicate ((l0_1.length:Int):Int).toNat false:List Bool)).bind fun y353=>(if a1_0=a0_0 then ((zSameInts.f k l1_2 l0_2).bind fun t356=>(ztaken.j0 k y353 (!t356) a0_0 l0_1 l0_2 a1_0 l1_1 l1_2)) else (ztaken.j0 k y353 true a0_0 l0_1 l0_2 a1_0 l1_1 l1_2))) else (none)) else (none))=some (r1,r2):=h;clear h
 by_cases c3:0≤(l0_1.length:Int)
 ·rw [if_pos c3] at H;have c3b0:=eq_true c3;have c3b1:decide (0≤(l0_1.length:Int))=true:=decide_eq_true c3;clear c3
  by_cases c4:((l0_1.length:Int):Int).toNat≤281474976710656
  ·rw [if_pos c4] at H;have c4b0:=eq_true c4;have c4b1:decide (((l0_1.length:Int):Int).toNat≤281474976710656)=true:=decide_eq_true c4;clear c4;obtain ⟨y353,hy353⟩:∃ y_:List Bool,y_=(List.replicate ((l0_1.length:Int):Int).toNat false):=⟨_,rfl⟩
   replace H:(if a1_0=a0_0 then ((zSameInts.f k l1_2 l0_2).bind fun t356=>(ztaken.j0 k y353 (!t356) a0_0 l0_1 l0_2 a1_0 l1_1 l1_2)) else (ztaken.j0 k y353 true a0_0 l0_1 l0_2 a1_0 l1_1 l1_2))=some (r1,r2):=by first |(rw [hy353];with_reducible exact H) |(have H2_:=(Option.bind_some _ _).symm.trans H;rw [hy353];with_reducible exact H2_) |(have H2_:=(Option.bind_some _ _).symm.trans H;with_reducible exact H2_) |with_reducible exact H |(rw [hy353];exact H) |exact H
   have Ny353:=ak hy353;clear hy353;have HC5:=ak H;clear H
   go_enter Try.func23,Try.ntmps23
   go_upto_region 2 with (first |((with_reducible refine gate_dst (N:=2) rfl ?_);refine box_event ?hg (N:=2) ?hd (cs:= #[.int .i64 a0_0,.slice A0_1 l0_1.length c0_1,.slice A0_2 l0_2.length c0_2]) (t:=43) ?hr ?_;(case hd=>rfl);(case hg=>rfl);(case hr=>first |(go_simp;done) |(go_simp;rfl));intro gb351 hg w6 hbox hb;have n0_:=ak (below_step qe hb);have n1_:=ak (hbox);have n2_:=ak ((by rw [hg];exact (below_size qe):w.heap.size≤gb351));have n3_:=ak ((by rw [hg];exact (below_size qe):w.heap.size≤gb351));clear HB;have HB:=n0_;have BK351:=n1_;have GW351:=n2_;have GE351:=n3_;clear n0_ n1_ n2_ n3_;clear hb hbox hg) |((with_reducible refine gate_dst (N:=3) rfl ?_);refine box_event ?hg (N:=3) ?hd (cs:= #[.int .i64 a1_0,.slice A1_1 l1_1.length c1_1,.slice A1_2 l1_2.length c1_2]) (t:=43) ?hr ?_;(case hd=>rfl);(case hg=>rfl);(case hr=>first |(go_simp;done) |(go_simp;rfl));intro gb352 hg w7 hbox hb;have n0_:=ak (blk_below (g:=gb351) (o:= .cells #[.int .i64 a0_0,.slice A0_1 l0_1.length c0_1,.slice A0_2 l0_2.length c0_2] 43 (0,0)) (bk BK351) hb);have n1_:=ak (below_step (qm GE351) hb);have n2_:=ak (hbox);have n3_:=ak ((by rw [hg];exact (below_size (qm GE351)):w.heap.size≤gb352));have n4_:=ak ((by rw [hg];exact (below_size (qm GE351)):w.heap.size≤gb352));have n5_:=ak ((by rw [hg];exact Nat.ne_of_lt (blk_lt (g:=gb351) (o:= .cells #[.int .i64 a0_0,.slice A0_1 l0_1.length c0_1,.slice A0_2 l0_2.length c0_2] 43 (0,0)) (bk BK351)):gb351≠gb352));have n6_:=ak ((by rw [hg];exact Nat.ne_of_gt (blk_lt (g:=gb351) (o:= .cells #[.int .i64 a0_0,.slice A0_1 l0_1.length c0_1,.slice A0_2 l0_2.length c0_2] 43 (0,0)) (bk BK351)):gb352≠gb351));clear BK351;clear HB;have BK351:=n0_;have HB:=n1_;have BK352:=n2_;have GW352:=n3_;have GE352:=n4_;have NB351_352:=n5_;have NB352_351:=n6_;clear n0_ n1_ n2_ n3_ n4_ n5_ n6_;clear hb hbox hg;have hnb8:=NB351_352.out;have hnc8:=NB352_351.out;have hcz9_0:w7.cell? ⟨gb351,0,none⟩=some (.int .i64 a0_0):=qj BK351 0;have hcz9_1:w7.cell? ⟨gb351,1,none⟩=some (.slice A0_1 l0_1.length c0_1):=qj BK351 1;have hcz9_2:w7.cell? ⟨gb351,2,none⟩=some (.slice A0_2 l0_2.length c0_2):=qj BK351 2;have hfz9_0:=ql BK351 0;have hfz9_1:=ql BK351 1;have hfz9_2:=ql BK351 2) |((with_reducible refine gate_dst (N:=12) rfl ?_);refine Kd.R_make Kd.bool _ 4 rfl (N:=12) rfl 53 _ _ rfl (l0_1.length:Int) rfl rfl Try.underlying53 (.bool false) 1 info4 rfl (by decide) (by omega) false (ok:=fun _=>True) (okp:=fun _=>True) rfl (fun _ hk=>hk) trivial (dt) (Nat.le_trans (Nat.mul_le_mul_right _ (dt:(l0_1.length:Int).toNat≤281474976710656)) (by omega)) (Below.refl _ _) (Nat.le_refl _) ?_;intro v354 w10 ho11 hb hg_ hnew_;clear hg_ hnew_;(first |rw [←Ny353.out] at ho11 |(simp only [Int.reduceToNat] at ho11;rw [←Ny353.out] at ho11));have n0_:=ak (Kd.R_lower ho11 (below_size (qg GE351 GE352)));have n1_:=ak (blk_below (g:=gb351) (o:= .cells #[.int .i64 a0_0,.slice A0_1 l0_1.length c0_1,.slice A0_2 l0_2.length c0_2] 43 (0,0)) (bk BK351) hb);have n2_:=ak (blk_below (g:=gb352) (o:= .cells #[.int .i64 a1_0,.slice A1_1 l1_1.length c1_1,.slice A1_2 l1_2.length c1_2] 43 (0,0)) (bk BK352) hb);have n3_:=ak (below_step (qg GE351 GE352) hb);clear BK351;clear BK352;clear HB;have HO355:=n0_;have BK351:=n1_;have BK352:=n2_;have HB:=n3_;clear n0_ n1_ n2_ n3_;clear hb ho11))
   (try simp only [Act.put,List.setIfInBounds_toArray,List.set_cons_zero,List.set_cons_succ])
   go_cut [25] (fun v25 wc=>∃ (kq:Nat) (x25_4:Bool),v25= .bool x25_4∧Aside0 (ztaken.j0 kq y353 x25_4 a0_0 l0_1 l0_2 a1_0 l1_1 l1_2=some (r1,r2))∧Aside0 (kq≤k)∧Aside0 (Kd.R Kd.bool 4 wc w.heap.size (fun _=>True) v354 y353)∧Aside0 (wc.heap[gb351]? =some (.cells #[.int .i64 a0_0,(.slice A0_1 l0_1.length c0_1),(.slice A0_2 l0_2.length c0_2)] 43 (0,0)))∧Aside0 (wc.heap[gb352]? =some (.cells #[.int .i64 a1_0,(.slice A1_1 l1_1.length c1_1),(.slice A1_2 l1_2.length c1_2)] 43 (0,0)))∧Aside0 (Below w.heap.size w wc))
   case first =>
    have H:=HC5.out;clear HC5
    by_cases c12:a1_0=a0_0
    ·rw [if_pos c12] at H;have c12b0:(a1_0==a0_0)=true:=beq_iff_eq.mpr c12;have c12b1:(a1_0 != a0_0)=false:=bne_eq_false_iff_eq.mpr c12;clear c12
     (first |rw [c12b0] |(simp only [i64_w,i32_w];rw [c12b0]) |skip)
     replace H:=Option.bind_eq_some_iff.mp H;obtain ⟨t356,A130,H⟩:=H;replace H:(ztaken.j0 k y353 (!t356) a0_0 l0_1 l0_2 a1_0 l1_1 l1_2)=some (r1,r2):=H;have A13:=ak A130;clear A130;have H':=ak H;clear H;have hnb14:=NB352_351.out;have hnc14:=NB351_352.out;have hcz15_0:w10.cell? ⟨gb352,0,none⟩=some (.int .i64 a1_0):=qj BK352 0;have hcz15_1:w10.cell? ⟨gb352,1,none⟩=some (.slice A1_1 l1_1.length c1_1):=qj BK352 1;have hcz15_2:w10.cell? ⟨gb352,2,none⟩=some (.slice A1_2 l1_2.length c1_2):=qj BK352 2;have hfz15_0:=ql BK352 0;have hfz15_1:=ql BK352 1
     have hfz15_2:=ql BK352 2;have hcz16_0:w10.cell? ⟨gb351,0,none⟩=some (.int .i64 a0_0):=qj BK351 0;have hcz16_1:w10.cell? ⟨gb351,1,none⟩=some (.slice A0_1 l0_1.length c0_1):=qj BK351 1;have hcz16_2:w10.cell? ⟨gb351,2,none⟩=some (.slice A0_2 l0_2.length c0_2):=qj BK351 2;have hfz16_0:=ql BK351 0;have hfz16_1:=ql BK351 1;have hfz16_2:=ql BK351 2
     go_wp2_with (first |(go_at_call 12;(with_reducible refine (zSameInts.calls k _ _ l1_2 _ _ l0_2 t356 _ ?side1 ?side2 ?side3 ?side4 A13.out).mono ?_);(case side1=>exact qh (Kd.C_below HR1_2.out HB.out));(case side2=>exact HC1_2.out);(case side3=>exact qh (Kd.C_below HR0_2.out HB.out));(case side4=>exact HC0_2.out);rintro e w' ⟨rfl,⟨nd,rfl⟩⟩))
     go_meet
     case rel=>exact ⟨_,(!t356),qa,H',⟨by first |omega |exact Nat.le_refl _⟩,⟨rk HO355⟩,⟨bk BK351⟩,⟨bk BK352⟩,⟨by repeat (first |(with_reducible first |exact HB.out |apply below_alloc |apply pw_below_drewN |apply below_drew1 |refine below_set ?_ GE351.out |refine below_set ?_ GE352.out) |exact HB.out)⟩⟩
    ·rw [if_neg c12] at H;have c12b0:(a1_0==a0_0)=false:=beq_eq_false_iff_ne.mpr c12;have c12b1:(a1_0 != a0_0)=true:=bne_iff_ne.mpr c12
     (first |rw [c12b0] |(simp only [i64_w,i32_w];rw [c12b0]) |skip)
     have H':=ak H;clear H;have hnb17:=NB352_351.out;have hnc17:=NB351_352.out;have hcz18_0:w10.cell? ⟨gb352,0,none⟩=some (.int .i64 a1_0):=qj BK352 0;have hcz18_1:w10.cell? ⟨gb352,1,none⟩=some (.slice A1_1 l1_1.length c1_1):=qj BK352 1;have hcz18_2:w10.cell? ⟨gb352,2,none⟩=some (.slice A1_2 l1_2.length c1_2):=qj BK352 2;have hfz18_0:=ql BK352 0;have hfz18_1:=ql BK352 1;have hfz18_2:=ql BK352 2;have hcz19_0:w10.cell? ⟨gb351,0,none⟩=some (.int .i64 a0_0):=qj BK351 0
     have hcz19_1:w10.cell? ⟨gb351,1,none⟩=some (.slice A0_1 l0_1.length c0_1):=qj BK351 1;have hcz19_2:w10.cell? ⟨gb351,2,none⟩=some (.slice A0_2 l0_2.length c0_2):=qj BK351 2;have hfz19_0:=ql BK351 0;have hfz19_1:=ql BK351 1;have hfz19_2:=ql BK351 2
     go_wp2
     go_meet
     case rel=>exact ⟨_,(true),qa,H',⟨by first |omega |exact Nat.le_refl _⟩,⟨rk HO355⟩,⟨bk BK351⟩,⟨bk BK352⟩,⟨by repeat (first |(with_reducible first |exact HB.out |apply below_alloc |apply pw_below_drewN |apply below_drew1 |refine below_set ?_ GE351.out |refine below_set ?_ GE352.out) |exact HB.out)⟩⟩
   case rest =>
    clear HC5
    try clear c1
    try clear c2
    try clear p2
    try clear c3
    try clear c3b0
    try clear c3b1
    try clear c4
    try clear c4b0
    try clear c4b1
    try clear c8
    try clear c12
    try clear c12b0
    try clear c12b1
    try clear c14
    try clear c17
    try clear hcz15_0
    try clear hcz15_1
    try clear hcz15_2
    try clear hcz16_0
    try clear hcz16_1
    try clear hcz16_2
    try clear hcz18_0
    try clear hcz18_1
    try clear hcz18_2
    try clear hcz19_0
    try clear hcz19_1
    try clear hcz19_2
    try clear hcz9_0
    try clear hcz9_1
    try clear hcz9_2
    try clear hfz15_0
    try clear hfz15_1
    try clear hfz15_2
    try clear hfz16_0
    try clear hfz16_1
    try clear hfz16_2
    try clear hfz18_0
    try clear hfz18_1
    try clear hfz18_2
    try clear hfz19_0
    try clear hfz19_1
    try clear hfz19_2
    try clear hfz9_0
    try clear hfz9_1
    try clear hfz9_2
    obtain ⟨kq,x25_4,rfl,HA,HJ4,HO_6,BK351,BK352,HB⟩:=hcut;cases kq with
    |zero=>exact absurd HA.out (by simp [ztaken.j0])
    |succ kj4 =>
     have H:=HA.out;clear HA;simp only [ztaken.j0] at H
     by_cases c20:x25_4=true
     ·subst c20;have H1:(some (y353,false))=some (r1,r2):=by rw [if_pos rfl] at H;exact H
      clear H;have H:=H1;clear H1;simp only [Option.some.injEq,Prod.mk.injEq] at H;obtain ⟨rfl,rfl⟩:=H
      go_wp2
      go_ret2
      exact ⟨_,by first |rfl |(simp [errW_none,errW_some]<;>rfl) |(simp [*,errW_none,errW_some]<;>rfl),by (with_reducible repeat (first |apply Kd.R_alloc |apply Kd.R_drewN |apply Kd.R_drew));exact HO_6.out,by repeat (first |(with_reducible first |exact HB.out |apply below_alloc |apply pw_below_drewN |apply below_drew1 |refine below_set ?_ GE351.out |refine below_set ?_ GE352.out) |exact HB.out)⟩
     ·replace c20:=Bool.eq_false_iff.mpr c20;subst c20;have H1:(ztaken.l0 kj4 y353 (wrap64 ((l1_1.length:Int)-1)) (wrap64 ((l0_1.length:Int)-1)) a0_0 l0_1 l0_2 a1_0 l1_1 l1_2)=some (r1,r2):=by rw [if_neg (show ¬ (false=true) by decide)] at H;exact H
      clear H;have H:=H1;clear H1;have H':=ak H;clear H;have hnb21:=NB352_351.out;have hnc21:=NB351_352.out;have hcz22_0:wc.cell? ⟨gb352,0,none⟩=some (.int .i64 a1_0):=qj BK352 0;have hcz22_1:wc.cell? ⟨gb352,1,none⟩=some (.slice A1_1 l1_1.length c1_1):=qj BK352 1;have hcz22_2:wc.cell? ⟨gb352,2,none⟩=some (.slice A1_2 l1_2.length c1_2):=qj BK352 2;have hfz22_0:=ql BK352 0;have hfz22_1:=ql BK352 1;have hfz22_2:=ql BK352 2;have hcz23_0:wc.cell? ⟨gb351,0,none⟩=some (.int .i64 a0_0):=qj BK351 0
      have hcz23_1:wc.cell? ⟨gb351,1,none⟩=some (.slice A0_1 l0_1.length c0_1):=qj BK351 1;have hcz23_2:wc.cell? ⟨gb351,2,none⟩=some (.slice A0_2 l0_2.length c0_2):=qj BK351 2;have hfz23_0:=ql BK351 0;have hfz23_1:=ql BK351 1;have hfz23_2:=ql BK351 2
      go_wp2
      go_loopg [7,8] kj4 (fun kq v7 v8 w'=>∃ (x6_2:List Bool) (x7_2:Int) (x8_2:Int),v7= .int .i64 x7_2∧v8= .int .i64 x8_2∧Aside0 (ztaken.l0 kq x6_2 x7_2 x8_2 a0_0 l0_1 l0_2 a1_0 l1_1 l1_2=some (r1,r2))∧Aside0 (kq≤kj4)∧Aside0 (Kd.R Kd.bool 4 w' w.heap.size (fun _=>True) v354 x6_2)∧Aside0 (w'.heap[gb351]? =some (.cells #[.int .i64 a0_0,(.slice A0_1 l0_1.length c0_1),(.slice A0_2 l0_2.length c0_2)] 43 (0,0)))∧Aside0 (w'.heap[gb352]? =some (.cells #[.int .i64 a1_0,(.slice A1_1 l1_1.length c1_1),(.slice A1_2 l1_2.length c1_2)] 43 (0,0)))∧Aside0 (Below w.heap.size w w'))
      case atStart=>exact ⟨(y353),(wrap64 ((l1_1.length:Int)-1)),(wrap64 ((l0_1.length:Int)-1)),qa,qa,H',⟨Nat.le_refl _⟩,⟨rk HO_6⟩,⟨bk BK351⟩,⟨bk BK352⟩,⟨by repeat (first |(with_reducible first |exact HB.out |apply below_alloc |apply pw_below_drewN |apply below_drew1 |refine below_set ?_ GE351.out |refine below_set ?_ GE352.out) |exact HB.out)⟩⟩
      case round =>
       clear H'
       try clear c1
       try clear c2
       try clear p2
       try clear c3
       try clear c3b0
       try clear c3b1
       try clear c4
       try clear c4b0
       try clear c4b1
       try clear p6
       try clear c8
       try clear c12
       try clear c12b0
       try clear c12b1
       try clear c14
       try clear c17
       try clear c20
       try clear c21
       try clear c23
       try clear hcz15_0
       try clear hcz15_1
       try clear hcz15_2
       try clear hcz16_0
       try clear hcz16_1
       try clear hcz16_2
       try clear hcz18_0
       try clear hcz18_1
       try clear hcz18_2
       try clear hcz19_0
       try clear hcz19_1
       try clear hcz19_2
       try clear hcz22_0
       try clear hcz22_1
       try clear hcz22_2
       try clear hcz23_0
       try clear hcz23_1
       try clear hcz23_2
       try clear hcz9_0
       try clear hcz9_1
       try clear hcz9_2
       try clear hfz15_0
       try clear hfz15_1
       try clear hfz15_2
       try clear hfz16_0
       try clear hfz16_1
       try clear hfz16_2
       try clear hfz18_0
       try clear hfz18_1
       try clear hfz18_2
       try clear hfz19_0
       try clear hfz19_1
       try clear hfz19_2
       try clear hfz22_0
       try clear hfz22_1
       try clear hfz22_2
       try clear hfz23_0
       try clear hfz23_1
       try clear hfz23_2
       try clear hfz9_0
       try clear hfz9_1
       try clear hfz9_2
       try clear p2
       obtain ⟨x6_2,x7_2,x8_2,rfl,rfl,HA,HK2,HO_6,BK351,BK352,HB⟩:=hrel;cases gk with
       |zero=>exact absurd HA.out (by simp [ztaken.l0])
       |succ k2 =>
        have H:=HA.out;clear HA;simp only [ztaken.l0] at H
        by_cases c24:x8_2≥0
        ·rw [if_pos c24] at H;have c24b0:decide (0≤x8_2)=true:=decide_eq_true c24;clear c24;have HC25:=ak H;clear H
         go_upto_region 8 with (fail)
         go_cut [53] (fun v53 wc=>∃ (kq:Nat) (x53_24:Bool),v53= .bool x53_24∧Aside0 (ztaken.j2 kq x6_2 x7_2 x8_2 x53_24 a0_0 l0_1 l0_2 a1_0 l1_1 l1_2=some (r1,r2))∧Aside0 (kq≤k2)∧Aside0 (Kd.R Kd.bool 4 wc w.heap.size (fun _=>True) v354 x6_2)∧Aside0 (wc.heap[gb351]? =some (.cells #[.int .i64 a0_0,(.slice A0_1 l0_1.length c0_1),(.slice A0_2 l0_2.length c0_2)] 43 (0,0)))∧Aside0 (wc.heap[gb352]? =some (.cells #[.int .i64 a1_0,(.slice A1_1 l1_1.length c1_1),(.slice A1_2 l1_2.length c1_2)] 43 (0,0)))∧Aside0 (Below w.heap.size w wc))
         case first =>
          have H:=HC25.out;clear HC25
          by_cases c26:x7_2≥0
          ·rw [if_pos c26] at H;have c26b0:decide (0≤x7_2)=true:=decide_eq_true c26;clear c26
           (first |rw [c26b0] |(simp only [i64_w,i32_w];rw [c26b0]) |skip)
           by_cases c27:0≤x8_2
           ·rw [if_pos c27] at H;have c27b0:decide (0≤x8_2)=true:=decide_eq_true c27;clear c27
            by_cases c28:x8_2<(l0_1.length:Int)
            ·rw [if_pos c28] at H;have c28b0:decide (x8_2<(l0_1.length:Int))=true:=decide_eq_true c28;clear c28
             by_cases c29:0≤x7_2
             ·rw [if_pos c29] at H;have c29b0:decide (0≤x7_2)=true:=decide_eq_true c29;clear c29
              by_cases c30:x7_2<(l1_1.length:Int)
              ·rw [if_pos c30] at H;have c30b0:decide (x7_2<(l1_1.length:Int))=true:=decide_eq_true c30;clear c30;replace H:=Option.bind_eq_some_iff.mp H;obtain ⟨t359,A310,H⟩:=H;replace H:(ztaken.j2 k2 x6_2 x7_2 x8_2 t359 a0_0 l0_1 l0_2 a1_0 l1_1 l1_2)=some (r1,r2):=H;have A31:=ak A310;clear A310;have H':=ak H;clear H
               try go_wp2
               have n0_:=ak (Kd.R_drew HO_6.out);have n1_:=ak (blk_drew BK351.out);have n2_:=ak (blk_drew BK352.out);have n3_:=ak (below_drew1 HB.out);clear HO_6;clear BK351;clear BK352;clear HB;have HO_6:=n0_;have BK351:=n1_;have BK352:=n2_;have HB:=n3_;clear n0_ n1_ n2_ n3_;have p357:0≤(x8_2:Int):=dt;have q357:x8_2<(l0_1.length:Int):=dt;obtain ⟨ad357,A357_3,c357_3,A357_7,c357_7,e357,hx357_0,hx357_1,hx357_2,hx357_3,hx357_4,hx357_5,hx357_6,hx357_7,hl357_3,hi357_3,hl357_7,hi357_7⟩:=at_T47 HR0_1.out x8_2 p357 q357;have hw357_7:=hx357_7
               have hw357_6:=hx357_6;have hw357_5:=hx357_5;have hw357_4:=hx357_4;have hw357_3:=hx357_3;have hw357_2:=hx357_2;have hw357_1:=hx357_1;have hw357_0:=hx357_0;cases e357;replace hx357_0:=(qd HB hx357_0 :)
               replace hx357_1:=(qd HB hx357_1 :)
               replace hx357_2:=(qd HB hx357_2 :)
               replace hx357_3:=(qd HB hx357_3 :)
               replace hx357_4:=(qd HB hx357_4 :)
               replace hx357_5:=(qd HB hx357_5 :)
               replace hx357_6:=(qd HB hx357_6 :)
               replace hx357_7:=(qd HB hx357_7 :)
               have HR357_3:=ak hi357_3;have HC357_3:=ak hl357_3;clear hi357_3 hl357_3;have HR357_7:=ak hi357_7;have HC357_7:=ak hl357_7;clear hi357_7 hl357_7;replace p357:=eq_true p357;replace q357:=eq_true q357;have p358:0≤(x7_2:Int):=dt;have q358:x7_2<(l1_1.length:Int):=dt;obtain ⟨ad358,A358_3,c358_3,A358_7,c358_7,e358,hx358_0,hx358_1,hx358_2,hx358_3,hx358_4,hx358_5,hx358_6,hx358_7,hl358_3,hi358_3,hl358_7,hi358_7⟩:=at_T47 HR1_1.out x7_2 p358 q358;have hw358_7:=hx358_7;have hw358_6:=hx358_6;have hw358_5:=hx358_5;have hw358_4:=hx358_4
               have hw358_3:=hx358_3;have hw358_2:=hx358_2;have hw358_1:=hx358_1;have hw358_0:=hx358_0;cases e358;replace hx358_0:=(qd HB hx358_0 :)
               replace hx358_1:=(qd HB hx358_1 :)
               replace hx358_2:=(qd HB hx358_2 :)
               replace hx358_3:=(qd HB hx358_3 :)
               replace hx358_4:=(qd HB hx358_4 :)
               replace hx358_5:=(qd HB hx358_5 :)
               replace hx358_6:=(qd HB hx358_6 :)
               replace hx358_7:=(qd HB hx358_7 :)
               have HR358_3:=ak hi358_3;have HC358_3:=ak hl358_3;clear hi358_3 hl358_3;have HR358_7:=ak hi358_7;have HC358_7:=ak hl358_7;clear hi358_7 hl358_7;replace p358:=eq_true p358;replace q358:=eq_true q358
               refine start_ (n:=15) (S:=fun w'=>w'.cell? ⟨gb351,0,none⟩=some (.int .i64 a0_0)∧w'.cell? ⟨gb351,1,none⟩=some (.slice (some ad357) l0_1.length c0_1)∧w'.cell? ⟨gb351,2,none⟩=some (.slice A0_2 l0_2.length c0_2)∧w'.cell? ⟨gb352,0,none⟩=some (.int .i64 a1_0)∧w'.cell? ⟨gb352,1,none⟩=some (.slice (some ad358) l1_1.length c1_1)∧w'.cell? ⟨gb352,2,none⟩=some (.slice A1_2 l1_2.length c1_2)∧w'.cell? (ad357.add ((x8_2).toNat*8))=some (.int .i64 ((rd_T47 l0_1 x8_2).f0))∧w'.cell? ⟨(ad357.add ((x8_2).toNat*8)).block,(ad357.add ((x8_2).toNat*8)).off+1,none⟩=some (.int .i64 ((rd_T47 l0_1 x8_2).f1))∧w'.cell? ⟨(ad357.add ((x8_2).toNat*8)).block,(ad357.add ((x8_2).toNat*8)).off+2,none⟩=some (.int .i64 ((rd_T47 l0_1 x8_2).f2))∧w'.cell? ⟨(ad357.add ((x8_2).toNat*8)).block,(ad357.add ((x8_2).toNat*8)).off+3,none⟩=some (.slice A357_3 ((rd_T47 l0_1 x8_2).f3).length c357_3)∧w'.cell? ⟨(ad357.add ((x8_2).toNat*8)).block,(ad357.add ((x8_2).toNat*8)).off+4,none⟩=some (.int .i64 ((rd_T47 l0_1 x8_2).f4))∧w'.cell? ⟨(ad357.add ((x8_2).toNat*8)).block,(ad357.add ((x8_2).toNat*8)).off+5,none⟩=some (.int .i64 ((rd_T47 l0_1 x8_2).f5))∧w'.cell? ⟨(ad357.add ((x8_2).toNat*8)).block,(ad357.add ((x8_2).toNat*8)).off+6,none⟩=some (.int .i64 ((rd_T47 l0_1 x8_2).f6))∧w'.cell? ⟨(ad357.add ((x8_2).toNat*8)).block,(ad357.add ((x8_2).toNat*8)).off+7,none⟩=some (.slice A357_7 ((rd_T47 l0_1 x8_2).f7).length c357_7)∧w'.cell? (ad358.add ((x7_2).toNat*8))=some (.int .i64 ((rd_T47 l1_1 x7_2).f0))∧w'.cell? ⟨(ad358.add ((x7_2).toNat*8)).block,(ad358.add ((x7_2).toNat*8)).off+1,none⟩=some (.int .i64 ((rd_T47 l1_1 x7_2).f1))∧w'.cell? ⟨(ad358.add ((x7_2).toNat*8)).block,(ad358.add ((x7_2).toNat*8)).off+2,none⟩=some (.int .i64 ((rd_T47 l1_1 x7_2).f2))∧w'.cell? ⟨(ad358.add ((x7_2).toNat*8)).block,(ad358.add ((x7_2).toNat*8)).off+3,none⟩=some (.slice A358_3 ((rd_T47 l1_1 x7_2).f3).length c358_3)∧w'.cell? ⟨(ad358.add ((x7_2).toNat*8)).block,(ad358.add ((x7_2).toNat*8)).off+4,none⟩=some (.int .i64 ((rd_T47 l1_1 x7_2).f4))∧w'.cell? ⟨(ad358.add ((x7_2).toNat*8)).block,(ad358.add ((x7_2).toNat*8)).off+5,none⟩=some (.int .i64 ((rd_T47 l1_1 x7_2).f5))∧w'.cell? ⟨(ad358.add ((x7_2).toNat*8)).block,(ad358.add ((x7_2).toNat*8)).off+6,none⟩=some (.int .i64 ((rd_T47 l1_1 x7_2).f6))∧w'.cell? ⟨(ad358.add ((x7_2).toNat*8)).block,(ad358.add ((x7_2).toNat*8)).off+7,none⟩=some (.slice A358_7 ((rd_T47 l1_1 x7_2).f7).length c358_7)) (ds:=[]) (bz 15 0) (by kernel_rfl) rfl rfl ⟨qj BK351 0,qj BK351 1,qj BK351 2,qj BK352 0,qj BK352 1,qj BK352 2,((qd HB hw357_0 :)),((qd HB hw357_1 :)),((qd HB hw357_2 :)),((qd HB hw357_3 :)),((qd HB hw357_4 :)),((qd HB hw357_5 :)),((qd HB hw357_6 :)),((qd HB hw357_7 :)),((qd HB hw358_0 :)),((qd HB hw358_1 :)),((qd HB hw358_2 :)),((qd HB hw358_3 :)),((qd HB hw358_4 :)),((qd HB hw358_5 :)),((qd HB hw358_6 :)),((qd HB hw358_7 :))⟩ (fun hHeld=>?_);refine with_tabW ztaken.tab8 ztaken.bits8 (fun HT_ HW_=>?_)
               generalize wr.drew=w32 at HO_6 BK351 BK352 HB HR357_3 HR357_7 HR358_3 HR358_7 hx357_0 hx357_1 hx357_2 hx357_3 hx357_4 hx357_5 hx357_6 hx357_7 hx358_0 hx358_1 hx358_2 hx358_3 hx358_4 hx358_5 hx358_6 hx358_7 hHeld ⊢;refine pu 0 39 15 1 ?_;refine pu 1 40 15 2 ?_;refine pu 2 41 15 3 ?_;refine pu 3 42 15 4 ?_;refine pq 5 44 15 47 ?_;refine pq 8 47 15 303 ?_;refine pq 10 49 15 1327 ?_;refine tq 4 43 15 1343 ?_;refine pq 6 45 15 1407 ?_;refine tq 7 46 15 1535 ?_;refine tk 9 48 15 11 ?_;refine pu 11 50 15 12 ?_;refine tk 12 51 15 13 ?_
               refine one_ (i:=13) (N:=some 52) (bz 15 14) rfl rfl (one_of HT_.out (by kernel_rfl)) (by decide) (fun K hK=>?_)
               refine goes_ Try.func37 (by kernel_rfl) rfl #[.agg #[.int .i64 ((rd_T47 l0_1 x8_2).f0),.int .i64 ((rd_T47 l0_1 x8_2).f1),.int .i64 ((rd_T47 l0_1 x8_2).f2),.slice A357_3 ((rd_T47 l0_1 x8_2).f3).length c357_3,.int .i64 ((rd_T47 l0_1 x8_2).f4),.int .i64 ((rd_T47 l0_1 x8_2).f5),.int .i64 ((rd_T47 l0_1 x8_2).f6),.slice A357_7 ((rd_T47 l0_1 x8_2).f7).length c357_7],.agg #[.int .i64 ((rd_T47 l1_1 x7_2).f0),.int .i64 ((rd_T47 l1_1 x7_2).f1),.int .i64 ((rd_T47 l1_1 x7_2).f2),.slice A358_3 ((rd_T47 l1_1 x7_2).f3).length c358_3,.int .i64 ((rd_T47 l1_1 x7_2).f4),.int .i64 ((rd_T47 l1_1 x7_2).f5),.int .i64 ((rd_T47 l1_1 x7_2).f6),.slice A358_7 ((rd_T47 l1_1 x7_2).f7).length c358_7]] (by rfl) rfl rfl qc ?_
               with_reducible refine (zSameIns.calls k2 ((rd_T47 l0_1 x8_2).f0) ((rd_T47 l0_1 x8_2).f1) ((rd_T47 l0_1 x8_2).f2) _ _ ((rd_T47 l0_1 x8_2).f3) ((rd_T47 l0_1 x8_2).f4) ((rd_T47 l0_1 x8_2).f5) ((rd_T47 l0_1 x8_2).f6) _ _ ((rd_T47 l0_1 x8_2).f7) ((rd_T47 l1_1 x7_2).f0) ((rd_T47 l1_1 x7_2).f1) ((rd_T47 l1_1 x7_2).f2) _ _ ((rd_T47 l1_1 x7_2).f3) ((rd_T47 l1_1 x7_2).f4) ((rd_T47 l1_1 x7_2).f5) ((rd_T47 l1_1 x7_2).f6) _ _ ((rd_T47 l1_1 x7_2).f7) t359 _ ?side1 ?side2 ?side3 ?side4 ?side5 ?side6 ?side7 ?side8 A31.out).mono ?_
               (case side1=>exact qh (Kd.C_below HR357_3.out HB.out))
               (case side2=>exact HC357_3.out)
               (case side3=>exact qh (Kd.C_below HR357_7.out HB.out))
               (case side4=>exact HC357_7.out)
               (case side5=>exact qh (Kd.C_below HR358_3.out HB.out))
               (case side6=>exact HC358_3.out)
               (case side7=>exact qh (Kd.C_below HR358_7.out HB.out))
               (case side8=>exact HC358_7.out)
               rintro e w33 ⟨rfl,hb⟩;refine ⟨_,rfl,?_⟩;have n0_:=ak (Kd.R_below (rk HO_6) hb);have n1_:=ak (blk_below (g:=gb351) (o:= .cells #[.int .i64 a0_0,.slice (some ad357) l0_1.length c0_1,.slice A0_2 l0_2.length c0_2] 43 (0,0)) (bk BK351) hb);have n2_:=ak (blk_below (g:=gb352) (o:= .cells #[.int .i64 a1_0,.slice (some ad358) l1_1.length c1_1,.slice A1_2 l1_2.length c1_2] 43 (0,0)) (bk BK352) hb);have n3_:=ak (below_step (qg GE351 GE352) hb);clear HO_6;clear BK351;clear BK352;clear HB;have HO_6:=n0_;have BK351:=n1_;have BK352:=n2_;have HB:=n3_
               clear n0_ n1_ n2_ n3_
               (try clear hb)
               (try clear hb2)
               (try clear hk)
               (try clear hi)
               refine hK.out _ _ ⟨qj BK351 0,qj BK351 1,qj BK351 2,qj BK352 0,qj BK352 1,qj BK352 2,((qd HB hw357_0 :)),((qd HB hw357_1 :)),((qd HB hw357_2 :)),((qd HB hw357_3 :)),((qd HB hw357_4 :)),((qd HB hw357_5 :)),((qd HB hw357_6 :)),((qd HB hw357_7 :)),((qd HB hw358_0 :)),((qd HB hw358_1 :)),((qd HB hw358_2 :)),((qd HB hw358_3 :)),((qd HB hw358_4 :)),((qd HB hw358_5 :)),((qd HB hw358_6 :)),((qd HB hw358_7 :))⟩ (fun hHeld=>?_);clear hK K;refine norm_ (a':=?_) ?_ ?_;rotate_left
               ·show Act.put _ (some 52) _=_
                simp only [Act.put,sA,sB,sC,i64_w,i32_w];rfl
               refine pu 14 53 15 15 ?_;refine done_ (done_of HT_.out (by kernel_rfl)) ?_
               try go_wp2
               go_meet
               case rel=>exact ⟨_,(t359),qa,H',⟨by have:=HJ4.out;have:=HK2.out;first |omega |exact Nat.le_refl _⟩,⟨rk HO_6⟩,⟨bk BK351⟩,⟨bk BK352⟩,⟨by repeat (first |(with_reducible first |exact HB.out |apply below_alloc |apply pw_below_drewN |apply below_drew1 |refine below_set ?_ GE351.out |refine below_set ?_ GE352.out) |exact HB.out)⟩⟩
              ·rw [if_neg c30] at H;exact absurd H (by simp)
             ·rw [if_neg c29] at H;exact absurd H (by simp)
            ·rw [if_neg c28] at H;exact absurd H (by simp)
           ·rw [if_neg c27] at H;exact absurd H (by simp)
          ·rw [if_neg c26] at H;have c26b0:decide (0≤x7_2)=false:=decide_eq_false c26;clear c26
           (first |rw [c26b0] |(simp only [i64_w,i32_w];rw [c26b0]) |skip)
           have H':=ak H;clear H
           try go_wp2
           have n0_:=ak (Kd.R_drew HO_6.out);have n1_:=ak (blk_drew BK351.out);have n2_:=ak (blk_drew BK352.out);have n3_:=ak (below_drew1 HB.out);clear HO_6;clear BK351;clear BK352;clear HB;have HO_6:=n0_;have BK351:=n1_;have BK352:=n2_;have HB:=n3_;clear n0_ n1_ n2_ n3_;refine start_ (n:=15) (S:=fun w'=>True) (ds:=[]) (bz 15 0) (by kernel_rfl) rfl rfl trivial (fun hHeld=>?_);refine with_tabW ztaken.tab8 ztaken.bits8 (fun HT_ HW_=>?_);generalize wr.drew=w34 at HO_6 BK351 BK352 HB hHeld ⊢;refine pu 0 39 15 1 ?_;refine pu 1 40 15 2 ?_;refine pu 2 41 15 3 ?_
           refine sk 3 42 15 4 ?_;refine sk 4 43 15 5 ?_;refine sk 5 44 15 6 ?_;refine sk 6 45 15 7 ?_;refine sk 7 46 15 8 ?_;refine sk 8 47 15 9 ?_;refine sk 9 48 15 10 ?_;refine sk 10 49 15 11 ?_;refine sk 11 50 15 12 ?_;refine sk 12 51 15 13 ?_;refine sk 13 52 15 14 ?_;refine pu 14 53 15 15 ?_;refine done_ (done_of HT_.out (by kernel_rfl)) ?_
           try go_wp2
           go_meet
           case rel=>exact ⟨_,(false),qa,H',⟨by have:=HJ4.out;have:=HK2.out;first |omega |exact Nat.le_refl _⟩,⟨rk HO_6⟩,⟨bk BK351⟩,⟨bk BK352⟩,⟨by repeat (first |(with_reducible first |exact HB.out |apply below_alloc |apply pw_below_drewN |apply below_drew1 |refine below_set ?_ GE351.out |refine below_set ?_ GE352.out) |exact HB.out)⟩⟩
         case rest =>
          clear HC25
          try clear c1
          try clear c2
          try clear p2
          try clear c3
          try clear c3b0
          try clear c3b1
          try clear p3
          try clear q3
          try clear hx3
          try clear c4
          try clear c4b0
          try clear c4b1
          try clear p6
          try clear c8
          try clear c12
          try clear c12b0
          try clear c12b1
          try clear c14
          try clear c17
          try clear c20
          try clear c21
          try clear c23
          try clear c24
          try clear c24b0
          try clear c26
          try clear c26b0
          try clear c27
          try clear c27b0
          try clear c28
          try clear c28b0
          try clear c29
          try clear c29b0
          try clear c30
          try clear c30b0
          try clear hcz15_0
          try clear hcz15_1
          try clear hcz15_2
          try clear hcz16_0
          try clear hcz16_1
          try clear hcz16_2
          try clear hcz18_0
          try clear hcz18_1
          try clear hcz18_2
          try clear hcz19_0
          try clear hcz19_1
          try clear hcz19_2
          try clear hcz22_0
          try clear hcz22_1
          try clear hcz22_2
          try clear hcz23_0
          try clear hcz23_1
          try clear hcz23_2
          try clear hcz9_0
          try clear hcz9_1
          try clear hcz9_2
          try clear hfz15_0
          try clear hfz15_1
          try clear hfz15_2
          try clear hfz16_0
          try clear hfz16_1
          try clear hfz16_2
          try clear hfz18_0
          try clear hfz18_1
          try clear hfz18_2
          try clear hfz19_0
          try clear hfz19_1
          try clear hfz19_2
          try clear hfz22_0
          try clear hfz22_1
          try clear hfz22_2
          try clear hfz23_0
          try clear hfz23_1
          try clear hfz23_2
          try clear hfz9_0
          try clear hfz9_1
          try clear hfz9_2
          try clear hx357_0
          try clear hx357_1
          try clear hx357_2
          try clear hx357_3
          try clear hx357_4
          try clear hx357_5
          try clear hx357_6
          try clear hx357_7
          try clear hx358_0
          try clear hx358_1
          try clear hx358_2
          try clear hx358_3
          try clear hx358_4
          try clear hx358_5
          try clear hx358_6
          try clear hx358_7
          try clear p2
          try clear p357
          try clear p358
          try clear p6
          try clear q357
          try clear q358
          obtain ⟨kq,x53_24,rfl,HA,HJ24,HO_6,BK351,BK352,HB⟩:=hcut;cases kq with
          |zero=>exact absurd HA.out (by simp [ztaken.j2])
          |succ kj24 =>
           have H:=HA.out;clear HA;simp only [ztaken.j2] at H
           by_cases c35:x53_24=true
           ·subst c35;have H1:(ztaken.l0 kj24 x6_2 (wrap64 (x7_2-1)) (wrap64 (x8_2-1)) a0_0 l0_1 l0_2 a1_0 l1_1 l1_2)=some (r1,r2):=by rw [if_pos rfl] at H;exact H
            clear H;have H:=H1;clear H1;have H':=ak H;clear H
            go_wp2
            go_roundg kj24
            case measure=>have:=HJ4.out;have:=HK2.out;have:=HJ24.out;omega
            case rel=>exact ⟨(x6_2),(wrap64 (x7_2-1)),(wrap64 (x8_2-1)),qa,qa,H',⟨by have:=HJ4.out;have:=HK2.out;have:=HJ24.out;omega⟩,⟨rk HO_6⟩,⟨bk BK351⟩,⟨bk BK352⟩,⟨by repeat (first |(with_reducible first |exact HB.out |apply below_alloc |apply pw_below_drewN |apply below_drew1 |refine below_set ?_ GE351.out |refine below_set ?_ GE352.out) |exact HB.out)⟩⟩
           ·replace c35:=Bool.eq_false_iff.mpr c35;subst c35
            have H1:(if 0≤x8_2 then (if x8_2<(l0_1.length:Int) then ((zquiet.f ((rd_T47 l0_1 x8_2).f0) ((rd_T47 l0_1 x8_2).f1) ((rd_T47 l0_1 x8_2).f2) ((rd_T47 l0_1 x8_2).f3) ((rd_T47 l0_1 x8_2).f4) ((rd_T47 l0_1 x8_2).f5) ((rd_T47 l0_1 x8_2).f6) ((rd_T47 l0_1 x8_2).f7)).bind fun t361=>(if t361=true then (if x8_2<(x6_2.length:Int) then (ztaken.l0 kj24 (x6_2.set (x8_2:Int).toNat true) x7_2 (wrap64 (x8_2-1)) a0_0 l0_1 l0_2 a1_0 l1_1 l1_2) else (none)) else (some (x6_2,false)))) else (none)) else (none))=some (r1,r2):=by rw [if_neg (show ¬ (false=true) by decide)] at H;exact H
            clear H;have H:=H1;clear H1
            by_cases c36:0≤x8_2
            ·rw [if_pos c36] at H;have c36b0:decide (0≤x8_2)=true:=decide_eq_true c36;clear c36
             by_cases c37:x8_2<(l0_1.length:Int)
             ·rw [if_pos c37] at H;have c37b0:decide (x8_2<(l0_1.length:Int))=true:=decide_eq_true c37;clear c37;replace H:=Option.bind_eq_some_iff.mp H;obtain ⟨t361,A380,H⟩:=H;replace H:(if t361=true then (if x8_2<(x6_2.length:Int) then (ztaken.l0 kj24 (x6_2.set (x8_2:Int).toNat true) x7_2 (wrap64 (x8_2-1)) a0_0 l0_1 l0_2 a1_0 l1_1 l1_2) else (none)) else (some (x6_2,false)))=some (r1,r2):=H;have A38:=ak A380;clear A380
              by_cases c39:t361=true
              ·subst c39;have H1:(if x8_2<(x6_2.length:Int) then (ztaken.l0 kj24 (x6_2.set (x8_2:Int).toNat true) x7_2 (wrap64 (x8_2-1)) a0_0 l0_1 l0_2 a1_0 l1_1 l1_2) else (none))=some (r1,r2):=by rw [if_pos rfl] at H;exact H
               clear H;have H:=H1;clear H1
               by_cases c40:x8_2<(x6_2.length:Int)
               ·rw [if_pos c40] at H;have c40b0:decide (x8_2<(x6_2.length:Int))=true:=decide_eq_true c40;clear c40;obtain ⟨y362,hy362⟩:∃ y_:List Bool,y_=(x6_2.set (x8_2:Int).toNat true):=⟨_,rfl⟩
                replace H:(ztaken.l0 kj24 y362 x7_2 (wrap64 (x8_2-1)) a0_0 l0_1 l0_2 a1_0 l1_1 l1_2)=some (r1,r2):=by first |(rw [hy362];with_reducible exact H) |(have H2_:=(Option.bind_some _ _).symm.trans H;rw [hy362];with_reducible exact H2_) |(have H2_:=(Option.bind_some _ _).symm.trans H;with_reducible exact H2_) |with_reducible exact H |(rw [hy362];exact H) |exact H
                have Ny362:=ak hy362;clear hy362;have H':=ak H;clear H;have hnb42:=NB351_352.out;have hnc42:=NB352_351.out;have hcz43_0:wc.cell? ⟨gb351,0,none⟩=some (.int .i64 a0_0):=qj BK351 0;have hcz43_1:wc.cell? ⟨gb351,1,none⟩=some (.slice A0_1 l0_1.length c0_1):=qj BK351 1;have hcz43_2:wc.cell? ⟨gb351,2,none⟩=some (.slice A0_2 l0_2.length c0_2):=qj BK351 2;have hfz43_0:=ql BK351 0;have hfz43_1:=ql BK351 1;have hfz43_2:=ql BK351 2;have p360:0≤(x8_2:Int):=dt;have q360:x8_2<(l0_1.length:Int):=dt
                obtain ⟨ad360,A360_3,c360_3,A360_7,c360_7,e360,hx360_0,hx360_1,hx360_2,hx360_3,hx360_4,hx360_5,hx360_6,hx360_7,hl360_3,hi360_3,hl360_7,hi360_7⟩:=at_T47 HR0_1.out x8_2 p360 q360;cases e360;replace hx360_0:=(qd HB hx360_0 :)
                replace hx360_1:=(qd HB hx360_1 :)
                replace hx360_2:=(qd HB hx360_2 :)
                replace hx360_3:=(qd HB hx360_3 :)
                replace hx360_4:=(qd HB hx360_4 :)
                replace hx360_5:=(qd HB hx360_5 :)
                replace hx360_6:=(qd HB hx360_6 :)
                replace hx360_7:=(qd HB hx360_7 :)
                have HR360_3:=ak hi360_3;have HC360_3:=ak hl360_3;clear hi360_3 hl360_3;have HR360_7:=ak hi360_7;have HC360_7:=ak hl360_7;clear hi360_7 hl360_7;replace p360:=eq_true p360;replace q360:=eq_true q360
                go_wp2_with (first |((with_reducible refine gate_callee (f:=24) rfl ?_);refine goesL_ (some 61) rfl rfl Try.func24 (by kernel_rfl) rfl #[.agg #[.int .i64 ((rd_T47 l0_1 x8_2).f0),.int .i64 ((rd_T47 l0_1 x8_2).f1),.int .i64 ((rd_T47 l0_1 x8_2).f2),.slice A360_3 ((rd_T47 l0_1 x8_2).f3).length c360_3,.int .i64 ((rd_T47 l0_1 x8_2).f4),.int .i64 ((rd_T47 l0_1 x8_2).f5),.int .i64 ((rd_T47 l0_1 x8_2).f6),.slice A360_7 ((rd_T47 l0_1 x8_2).f7).length c360_7]] rfl qc ?_;(with_reducible refine (zquiet.calls ((rd_T47 l0_1 x8_2).f0) ((rd_T47 l0_1 x8_2).f1) ((rd_T47 l0_1 x8_2).f2) _ _ ((rd_T47 l0_1 x8_2).f3) ((rd_T47 l0_1 x8_2).f4) ((rd_T47 l0_1 x8_2).f5) ((rd_T47 l0_1 x8_2).f6) _ _ ((rd_T47 l0_1 x8_2).f7) true _ ?side1 ?side2 ?side3 ?side4 A38.out).mono ?_);(case side1=>exact qh (Kd.C_below HR360_3.out HB.out));(case side2=>exact HC360_3.out);(case side3=>exact qh (Kd.C_below HR360_7.out HB.out));(case side4=>exact HC360_7.out);rintro e w44 ⟨rfl,hb⟩;refine ⟨_,rfl,?_⟩;have n0_:=ak (Kd.R_below (rk HO_6) hb);have n1_:=ak (blk_below (g:=gb351) (o:= .cells #[.int .i64 a0_0,.slice (some ad360) l0_1.length c0_1,.slice A0_2 l0_2.length c0_2] 43 (0,0)) (bk BK351) hb);have n2_:=ak (blk_below (g:=gb352) (o:= .cells #[.int .i64 a1_0,.slice A1_1 l1_1.length c1_1,.slice A1_2 l1_2.length c1_2] 43 (0,0)) (bk BK352) hb);have n3_:=ak (below_step (qg GE351 GE352) hb);clear HO_6;clear BK351;clear BK352;clear HB;have HO_6:=n0_;have BK351:=n1_;have BK352:=n2_;have HB:=n3_;clear n0_ n1_ n2_ n3_;(try clear hb);(try clear hb2);(try clear hk);(try clear hi);have p41:0≤(x8_2:Int):=dt;have q41:(x8_2:Int)<((x6_2.length:Int):Int):=dt;obtain ⟨go41,co41,eo41,gb41,gl41,cl41,HG41⟩:=Kd.R_form HO_6.out (by omega);(first |cases eo41 |(injection eo41 with ea_ en_ ec_;(first |subst ea_ |(injection ea_ with ea_;subst ea_));subst ec_;clear en_));have GB41:=ak gb41;have GG41:=ak HG41;clear gb41 gl41 HG41;obtain ⟨hx41_0,hf41_0⟩:=Kd.R_celln false HO_6.out (x8_2:Int) p41 q41;replace p41:=eq_true p41;replace q41:=eq_true q41;obtain ⟨hy45_,hz45_⟩:=Kd.R_celln false HO_6.out (x8_2:Int) (dt) (dt);have HP45:=Kd.R_putg HO_6.out (x8_2:Int) true) |((with_reducible refine gate_store (t:=4) (p:=66) rfl ?_);refine store_event (t:=4) (p:=66) (v:=?vo_w46) (w1:=(w44.setCell ⟨go41,(x8_2:Int).toNat,none⟩ (.bool true))) ?hg ?ho ?hn ?hr ?_;(case ho=>rfl);(case hg=>rfl);(case hn=>rfl);(case hr=>first |(go_simp;done) |(go_simp;rfl));intro w46 hw;have hg:w44.grownBy w46 (some go41):=(by rw [hw];exact HP45.2);have hp_:Kd.R Kd.bool 4 w46 w.heap.size (fun _=>True) (.slice (some ⟨go41,0,none⟩) x6_2.length co41) y362:=(by rw [hw,Ny362.out];exact HP45.1);clear HP45;have n0_:=ak (hp_);have n1_:=ak (blk_grown (g:=gb351) (o:= .cells #[.int .i64 a0_0,.slice (some ad360) l0_1.length c0_1,.slice A0_2 l0_2.length c0_2] 43 (0,0)) (bk BK351) hg (Kd.R_ne HO_6.out BK351.out (by decide)));have n2_:=ak (blk_grown (g:=gb352) (o:= .cells #[.int .i64 a1_0,.slice A1_1 l1_1.length c1_1,.slice A1_2 l1_2.length c1_2] 43 (0,0)) (bk BK352) hg (Kd.R_ne HO_6.out BK352.out (by decide)));have n3_:=ak ((by rw [hw];exact below_set (HB.out) GB41.out:Below w.heap.size w w46));clear HO_6;clear BK351;clear BK352;clear HB;have HO_6:=n0_;have BK351:=n1_;have BK352:=n2_;have HB:=n3_;clear n0_ n1_ n2_ n3_;clear hg hw hp_))
                go_roundg kj24
                case measure=>have:=HJ4.out;have:=HK2.out;have:=HJ24.out;omega
                case rel=>exact ⟨(y362),(x7_2),(wrap64 (x8_2-1)),qa,qa,H',⟨by have:=HJ4.out;have:=HK2.out;have:=HJ24.out;omega⟩,⟨rk HO_6⟩,⟨bk BK351⟩,⟨bk BK352⟩,⟨by repeat (first |(with_reducible first |exact HB.out |apply below_alloc |apply pw_below_drewN |apply below_drew1 |refine below_set ?_ GE351.out |refine below_set ?_ GE352.out) |exact HB.out)⟩⟩
               ·rw [if_neg c40] at H;exact absurd H (by simp)
              ·replace c39:=Bool.eq_false_iff.mpr c39;subst c39;have H1:(some (x6_2,false))=some (r1,r2):=by rw [if_neg (show ¬ (false=true) by decide)] at H;exact H
               clear H;have H:=H1;clear H1;simp only [Option.some.injEq,Prod.mk.injEq] at H;obtain ⟨rfl,rfl⟩:=H;have hnb47:=NB351_352.out;have hnc47:=NB352_351.out;have hcz48_0:wc.cell? ⟨gb351,0,none⟩=some (.int .i64 a0_0):=qj BK351 0;have hcz48_1:wc.cell? ⟨gb351,1,none⟩=some (.slice A0_1 l0_1.length c0_1):=qj BK351 1;have hcz48_2:wc.cell? ⟨gb351,2,none⟩=some (.slice A0_2 l0_2.length c0_2):=qj BK351 2;have hfz48_0:=ql BK351 0;have hfz48_1:=ql BK351 1;have hfz48_2:=ql BK351 2;have p360:0≤(x8_2:Int):=dt;have q360:x8_2<(l0_1.length:Int):=dt
               obtain ⟨ad360,A360_3,c360_3,A360_7,c360_7,e360,hx360_0,hx360_1,hx360_2,hx360_3,hx360_4,hx360_5,hx360_6,hx360_7,hl360_3,hi360_3,hl360_7,hi360_7⟩:=at_T47 HR0_1.out x8_2 p360 q360;cases e360;replace hx360_0:=(qd HB hx360_0 :)
               replace hx360_1:=(qd HB hx360_1 :)
               replace hx360_2:=(qd HB hx360_2 :)
               replace hx360_3:=(qd HB hx360_3 :)
               replace hx360_4:=(qd HB hx360_4 :)
               replace hx360_5:=(qd HB hx360_5 :)
               replace hx360_6:=(qd HB hx360_6 :)
               replace hx360_7:=(qd HB hx360_7 :)
               have HR360_3:=ak hi360_3;have HC360_3:=ak hl360_3;clear hi360_3 hl360_3;have HR360_7:=ak hi360_7;have HC360_7:=ak hl360_7;clear hi360_7 hl360_7;replace p360:=eq_true p360;replace q360:=eq_true q360
               go_wp2_with (first |((with_reducible refine gate_callee (f:=24) rfl ?_);refine goesL_ (some 61) rfl rfl Try.func24 (by kernel_rfl) rfl #[.agg #[.int .i64 ((rd_T47 l0_1 x8_2).f0),.int .i64 ((rd_T47 l0_1 x8_2).f1),.int .i64 ((rd_T47 l0_1 x8_2).f2),.slice A360_3 ((rd_T47 l0_1 x8_2).f3).length c360_3,.int .i64 ((rd_T47 l0_1 x8_2).f4),.int .i64 ((rd_T47 l0_1 x8_2).f5),.int .i64 ((rd_T47 l0_1 x8_2).f6),.slice A360_7 ((rd_T47 l0_1 x8_2).f7).length c360_7]] rfl qc ?_;(with_reducible refine (zquiet.calls ((rd_T47 l0_1 x8_2).f0) ((rd_T47 l0_1 x8_2).f1) ((rd_T47 l0_1 x8_2).f2) _ _ ((rd_T47 l0_1 x8_2).f3) ((rd_T47 l0_1 x8_2).f4) ((rd_T47 l0_1 x8_2).f5) ((rd_T47 l0_1 x8_2).f6) _ _ ((rd_T47 l0_1 x8_2).f7) false _ ?side1 ?side2 ?side3 ?side4 A38.out).mono ?_);(case side1=>exact qh (Kd.C_below HR360_3.out HB.out));(case side2=>exact HC360_3.out);(case side3=>exact qh (Kd.C_below HR360_7.out HB.out));(case side4=>exact HC360_7.out);rintro e w49 ⟨rfl,hb⟩;refine ⟨_,rfl,?_⟩;have n0_:=ak (Kd.R_below (rk HO_6) hb);have n1_:=ak (blk_below (g:=gb351) (o:= .cells #[.int .i64 a0_0,.slice (some ad360) l0_1.length c0_1,.slice A0_2 l0_2.length c0_2] 43 (0,0)) (bk BK351) hb);have n2_:=ak (blk_below (g:=gb352) (o:= .cells #[.int .i64 a1_0,.slice A1_1 l1_1.length c1_1,.slice A1_2 l1_2.length c1_2] 43 (0,0)) (bk BK352) hb);have n3_:=ak (below_step (qg GE351 GE352) hb);clear HO_6;clear BK351;clear BK352;clear HB;have HO_6:=n0_;have BK351:=n1_;have BK352:=n2_;have HB:=n3_;clear n0_ n1_ n2_ n3_;(try clear hb);(try clear hb2);(try clear hk);(try clear hi)))
               go_ret2
               exact ⟨_,by first |rfl |(simp [errW_none,errW_some]<;>rfl) |(simp [*,errW_none,errW_some]<;>rfl),by (with_reducible repeat (first |apply Kd.R_alloc |apply Kd.R_drewN |apply Kd.R_drew));exact HO_6.out,by repeat (first |(with_reducible first |exact HB.out |apply below_alloc |apply pw_below_drewN |apply below_drew1 |refine below_set ?_ GE351.out |refine below_set ?_ GE352.out) |exact HB.out)⟩
             ·rw [if_neg c37] at H;exact absurd H (by simp)
            ·rw [if_neg c36] at H;exact absurd H (by simp)
        ·rw [if_neg c24] at H;have c24b0:decide (0≤x8_2)=false:=decide_eq_false c24;clear c24;simp only [Option.some.injEq,Prod.mk.injEq] at H;obtain ⟨rfl,rfl⟩:=H
         go_wp2
         go_ret2
         exact ⟨_,by first |rfl |(simp [errW_none,errW_some]<;>rfl) |(simp [*,errW_none,errW_some]<;>rfl),by (with_reducible repeat (first |apply Kd.R_alloc |apply Kd.R_drewN |apply Kd.R_drew));exact HO_6.out,by repeat (first |(with_reducible first |exact HB.out |apply below_alloc |apply pw_below_drewN |apply below_drew1 |refine below_set ?_ GE351.out |refine below_set ?_ GE352.out) |exact HB.out)⟩
  ·rw [if_neg c4] at H;exact absurd H (by simp)
 ·rw [if_neg c3] at H;exact absurd H (by simp)
end Go.Proofs.Ytklknkfoafdgpaa.PLiveKnown
