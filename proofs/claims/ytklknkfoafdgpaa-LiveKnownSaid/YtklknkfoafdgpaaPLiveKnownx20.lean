import Derived.Test.YtklknkfoafdgpaaPLiveKnownx1
import Derived.Test.YtklknkfoafdgpaaPLiveKnownx19
namespace Go.Proofs.Ytklknkfoafdgpaa.PLiveKnown
set_option maxHeartbeats 8000000
set_option maxRecDepth 100000
open RowKit YtklknkfoafdgpaaW.PrintWords YtklknkfoafdgpaaW.PrintLast YtklknkfoafdgpaaW.PrintMore
attribute [local go_sem] max2_int min2_int max_two min_two max_three min_three max_four min_four
set_option linter.unusedVariables false
set_option linter.unusedSimpArgs false
mutual
def zmet.l0:Nat→List (List Bool)→Int→List Bool→List Int→Int→Int→Int→List (S43)→Option (Bool)
 |0,_,_,_,_,_,_,_,_=>none
 |k+1,x1,x4,x11,x13,x14,x376000,x376001,x376002=>if x14<(x13.length:Int) then (if 0≤x14 then (if 0≤(rd x13 x14) then (if (rd x13 x14)<(x376002.length:Int) then (zmet.l1 k x1 x4 x11 x13 x14 ((rd_T43 x376002 (rd x13 x14)).f2) 0 x376000 x376001 x376002) else (none)) else (none)) else (none)) else (some false)
def zmet.l1:Nat→List (List Bool)→Int→List Bool→List Int→Int→List Int→Int→Int→Int→List (S43)→Option (Bool)
 |0,_,_,_,_,_,_,_,_,_,_=>none
 |k+1,x1,x4,x11,x13,x14,x15,x16,x376000,x376001,x376002=>if x16<(x15.length:Int) then (if 0≤x16 then (if (rd x15 x16)<0 then (zmet.j2 k x1 x4 x11 x13 x14 x15 x16 (rd x15 x16) true x376000 x376001 x376002) else (if (rd x15 x16)≥(x11.length:Int) then (zmet.j2 k x1 x4 x11 x13 x14 x15 x16 (rd x15 x16) true x376000 x376001 x376002) else (if 0≤(rd x15 x16) then (if (rd x15 x16)<(x11.length:Int) then (zmet.j2 k x1 x4 x11 x13 x14 x15 x16 (rd x15 x16) (rdOf false x11 (rd x15 x16)) x376000 x376001 x376002) else (none)) else (none)))) else (none)) else (zmet.l0 k x1 x4 x11 x13 (wrap64 (x14+1)) x376000 x376001 x376002)
def zmet.j2:Nat→List (List Bool)→Int→List Bool→List Int→Int→List Int→Int→Int→Bool→Int→Int→List (S43)→Option (Bool)
 |0,_,_,_,_,_,_,_,_,_,_,_,_=>none
 |k+1,x1,x4,x11,x13,x14,x15,x16,x17,x79,x376000,x376001,x376002=>if x79=true then (zmet.l1 k x1 x4 x11 x13 x14 x15 (wrap64 (x16+1)) x376000 x376001 x376002) else (if 0≤x17 then (if x17<(x11.length:Int) then ((some (x11.set (x17:Int).toNat true:List Bool)).bind fun y389=>(if x17<(x376002.length:Int) then (if x17<(x1.length:Int) then ((zalong.f k ((rd_T43 x376002 x17).f1) (rd_L10 x1 x17) 0 x4).bind fun t392=>(if t392=1 then (some true) else (if t392=0 then (if x13.length<17592186044416 then (zmet.l1 k x1 x4 y389 (x13++[x17]) x14 x15 (wrap64 (x16+1)) x376000 x376001 x376002) else (none)) else (zmet.l1 k x1 x4 y389 x13 x14 x15 (wrap64 (x16+1)) x376000 x376001 x376002)))) else (none)) else (none))) else (none)) else (none))
end
def zmet.f (k:Nat) (a0_0:Int) (a0_1:Int) (l0_2:List (S43)) (l1:List (List Bool)) (a2:Int) (a3:Int) (a4:Int):Option (Bool):=if 0≤(l0_2.length:Int) then (if ((l0_2.length:Int):Int).toNat≤281474976710656 then (if 0≤a2 then (if a2<(l0_2.length:Int) then (if a2<(l1.length:Int) then ((zalong.f k ((rd_T43 l0_2 a2).f1) (rd_L10 l1 a2) a3 a4).bind fun t381=>(if t381=0 then (zmet.l0 k l1 a4 (List.replicate ((l0_2.length:Int):Int).toNat false) (([a2]:List Int)) 0 a0_0 a0_1 l0_2) else (some (t381==1)))) else (none)) else (none)) else (none)) else (none)) else (none)
def zmet.T2:Bool×List (List Nat×List Nat):=(true,[([],[]),([0],[0]),([],[]),([1,2],[1,2]),([3],[3]),([4],[4]),([],[]),([],[]),([6,7],[6,7]),([8],[8]),([],[]),([],[]),([5,9,10,11],[5,9,10,11]),([12,12,0,1,2,3,4,5,6,7,8,9,10,11,12],[12])])
def zmet.B2:List Nat:=[0,1,0,7,15,31,0,0,192,448,0,0,4095,8191]
theorem zmet.tab2:rtab .any (opsOf Try.f25 2)=zmet.T2:=by kernel_rfl
theorem zmet.bits2:waitsOk zmet.T2.2 zmet.B2=true:=by kernel_rfl
def zmet.T9:Bool×List (List Nat×List Nat):=(true,[([],[]),([0],[0]),([],[]),([],[]),([2,3],[2,3]),([4],[4]),([1,5],[1,5]),([6],[6]),([7],[7]),([8,0,1,2,3,4,5,6,7,8],[8])])
def zmet.B9:List Nat:=[0,1,0,0,12,28,63,127,255,511]
theorem zmet.tab9:rtab .any (opsOf Try.f25 9)=zmet.T9:=by kernel_rfl
theorem zmet.bits9:waitsOk zmet.T9.2 zmet.B9=true:=by kernel_rfl
def zmet.T16:Bool×List (List Nat×List Nat):=(true,[([],[]),([0],[0]),([],[]),([1,2],[1,2]),([3],[3]),([4],[4]),([],[]),([],[]),([6,7],[6,7]),([8],[8]),([],[]),([5,9,10],[5,9,10]),([11,11,0,1,2,3,4,5,6,7,8,9,10,11],[11])])
def zmet.B16:List Nat:=[0,1,0,7,15,31,0,0,192,448,0,2047,4095]
theorem zmet.tab16:rtab .any (opsOf Try.f25 16)=zmet.T16:=by kernel_rfl
theorem zmet.bits16:waitsOk zmet.T16.2 zmet.B16=true:=by kernel_rfl
theorem zmet.calls (k:Nat) (a0_0:Int) (a0_1:Int) (A0_2:Option Addr) (c0_2:Nat) (l0_2:List (S43)) (A1:Option Addr) (c1:Nat) (l1:List (List Bool)) (a2:Int) (a3:Int) (a4:Int) (r:Bool) (w:World) (hr0_2:Kd.C k43 w A0_2 l0_2.length l0_2) (hc0_2:l0_2.length≤c0_2) (hr1:Kd.C (Kd.slice 4 Kd.bool) w A1 l1.length l1) (hc1:l1.length≤c1) (h:zmet.f k a0_0 a0_1 l0_2 l1 a2 a3 a4=some r) :
  Calls Try.prog 25 #[.agg #[.int .i64 a0_0,.int .i64 a0_1,.slice A0_2 l0_2.length c0_2],.slice A1 l1.length c1,.int .i64 a2,.int .i64 a3,.int .i64 a4] w fun e w'=>e= .returned (.bool r)∧Below w.heap.size w w':=by
 have hu24:=Try.underlying24;have HR0_2:=ak hr0_2;have HC0_2:=ak hc0_2;clear hr0_2 hc0_2;have HR1:=ak hr1;have HC1:=ak hc1;clear hr1 hc1;have HB:=ak (Below.refl w.heap.size w)
 have H:(if 0≤(l0_2.length:Int) then (if ((l0_2.length:Int):Int).toNat≤281474976710656 then (if 0≤a2 then (if a2<(l0_2.length:Int) then (if a2<(l1.length:Int) then ((zalong.f k ((rd_T43 l0_2 a2).f1) (rd_L10 l1 a2) a3 a4).bind fun t381=>(if t381=0 then (zmet.l0 k l1 a4 (List.replicate ((l0_2.length:Int):Int).toNat false) (([a2]:List Int)) 0 a0_0 a0_1 l0_2) else (some (t381==1)))) else (none)) else (none)) else (none)) else (none)) else (none))=some r:=h;clear h
 by_cases c6:0≤(l0_2.length:Int)
 ·rw [if_pos c6] at H;have c6b0:=eq_true c6;have c6b1:decide (0≤(l0_2.length:Int))=true:=decide_eq_true c6;clear c6
  by_cases c7:((l0_2.length:Int):Int).toNat≤281474976710656
  ·rw [if_pos c7] at H;have c7b0:=eq_true c7;have c7b1:decide (((l0_2.length:Int):Int).toNat≤281474976710656)=true:=decide_eq_true c7;clear c7;obtain ⟨y376,hy376⟩:∃ y_:List Bool,y_=(List.replicate ((l0_2.length:Int):Int).toNat false):=⟨_,rfl⟩
   replace H:(if 0≤a2 then (if a2<(l0_2.length:Int) then (if a2<(l1.length:Int) then ((zalong.f k ((rd_T43 l0_2 a2).f1) (rd_L10 l1 a2) a3 a4).bind fun t381=>(if t381=0 then (zmet.l0 k l1 a4 y376 (([a2]:List Int)) 0 a0_0 a0_1 l0_2) else (some (t381==1)))) else (none)) else (none)) else (none))=some r:=by first |(rw [hy376];with_reducible exact H) |(have H2_:=(Option.bind_some _ _).symm.trans H;rw [hy376];with_reducible exact H2_) |(have H2_:=(Option.bind_some _ _).symm.trans H;with_reducible exact H2_) |with_reducible exact H |(rw [hy376];exact H) |exact H
   have Ny376:=ak hy376;clear hy376
   by_cases c8:0≤a2
   ·rw [if_pos c8] at H;have c8b0:decide (0≤a2)=true:=decide_eq_true c8;clear c8
    by_cases c9:a2<(l0_2.length:Int)
    ·rw [if_pos c9] at H;have c9b0:decide (a2<(l0_2.length:Int))=true:=decide_eq_true c9;clear c9
     by_cases c10:a2<(l1.length:Int)
     ·rw [if_pos c10] at H;have c10b0:decide (a2<(l1.length:Int))=true:=decide_eq_true c10;clear c10;replace H:=Option.bind_eq_some_iff.mp H;obtain ⟨t381,A110,H⟩:=H;replace H:(if t381=0 then (zmet.l0 k l1 a4 y376 (([a2]:List Int)) 0 a0_0 a0_1 l0_2) else (some (t381==1)))=some r:=H;have A11:=ak A110;clear A110
      by_cases c12:t381=0
      ·rw [if_pos c12] at H;have c12b0:(t381==0)=true:=beq_iff_eq.mpr c12;have c12b1:(t381 != 0)=false:=bne_eq_false_iff_eq.mpr c12;clear c12;obtain ⟨y382,hy382⟩:∃ y_:List Int,y_=(([a2]:List Int)):=⟨_,rfl⟩
       replace H:(zmet.l0 k l1 a4 y376 y382 0 a0_0 a0_1 l0_2)=some r:=by first |(rw [hy382];with_reducible exact H) |(have H2_:=(Option.bind_some _ _).symm.trans H;rw [hy382];with_reducible exact H2_) |(have H2_:=(Option.bind_some _ _).symm.trans H;with_reducible exact H2_) |with_reducible exact H |(rw [hy382];exact H) |exact H
       have Ny382:=ak hy382;clear hy382;have H':=ak H;clear H
       go_enter Try.func25,Try.ntmps25
       try go_wp2_with (first |((with_reducible refine gate_dst (N:=5) rfl ?_);(try (refine gate_guard (by rfl) ?_;dsimp only));refine box_event ?hg (N:=5) ?hd (cs:= #[.int .i64 a0_0,.int .i64 a0_1,.slice A0_2 l0_2.length c0_2]) (t:=24) ?hr ?_;(case hd=>rfl);(case hg=>rfl);(case hr=>first |(go_simp;done) |(go_simp;rfl));intro gb375 hg w13 hbox hb;have n0_:=ak (below_step qe hb);have n1_:=ak (hbox);have n2_:=ak ((by rw [hg];exact (below_size qe):w.heap.size≤gb375));have n3_:=ak ((by rw [hg];exact (below_size qe):w.heap.size≤gb375));clear HB;have HB:=n0_;have BK375:=n1_;have GW375:=n2_;have GE375:=n3_;clear n0_ n1_ n2_ n3_;clear hb hbox hg;have hcz14_0:w13.cell? ⟨gb375,0,none⟩=some (.int .i64 a0_0):=qj BK375 0;have hcz14_1:w13.cell? ⟨gb375,1,none⟩=some (.int .i64 a0_1):=qj BK375 1;have hcz14_2:w13.cell? ⟨gb375,2,none⟩=some (.slice A0_2 l0_2.length c0_2):=qj BK375 2;have hfz14_0:=ql BK375 0;have hfz14_1:=ql BK375 1;have hfz14_2:=ql BK375 2) |((with_reducible refine gate_dst (N:=21) rfl ?_);(try (refine gate_guard (by rfl) ?_;dsimp only));refine Kd.R_make Kd.bool _ 4 rfl (N:=21) rfl 53 _ _ rfl (l0_2.length:Int) rfl rfl Try.underlying53 (.bool false) 1 info4 rfl (by decide) (by omega) false (ok:=fun _=>True) (okp:=fun _=>True) rfl (fun _ hk=>hk) trivial (dt) (Nat.le_trans (Nat.mul_le_mul_right _ (dt:(l0_2.length:Int).toNat≤281474976710656)) (by omega)) (Below.refl _ _) (Nat.le_refl _) ?_;intro v377 w15 ho16 hb hg_ hnew_;clear hg_ hnew_;(first |rw [←Ny376.out] at ho16 |(simp only [Int.reduceToNat] at ho16;rw [←Ny376.out] at ho16));have n0_:=ak (Kd.R_lower ho16 (below_size (qm GE375)));have n1_:=ak (blk_below (g:=gb375) (o:= .cells #[.int .i64 a0_0,.int .i64 a0_1,.slice A0_2 l0_2.length c0_2] 24 (0,0)) (bk BK375) hb);have n2_:=ak (below_step (qm GE375) hb);clear BK375;clear HB;have HO378:=n0_;have BK375:=n1_;have HB:=n2_;clear n0_ n1_ n2_;clear hb ho16))
       have n0_:=ak (Kd.R_drew HO378.out);have n1_:=ak (blk_drew BK375.out);have n2_:=ak (below_drew1 HB.out);clear HO378;clear BK375;clear HB;have HO378:=n0_;have BK375:=n1_;have HB:=n2_;clear n0_ n1_ n2_;have p379:0≤(a2:Int):=dt;have q379:a2<(l0_2.length:Int):=dt;obtain ⟨ad379,A379_1,c379_1,A379_2,c379_2,e379,hx379_0,hx379_1,hx379_2,hl379_1,hi379_1,hl379_2,hi379_2⟩:=at_T43 HR0_2.out a2 p379 q379;have hw379_2:=hx379_2;have hw379_1:=hx379_1;have hw379_0:=hx379_0;cases e379;replace hx379_0:=(qd HB hx379_0 :)
       replace hx379_1:=(qd HB hx379_1 :)
       replace hx379_2:=(qd HB hx379_2 :)
       have HR379_1:=ak hi379_1;have HC379_1:=ak hl379_1;clear hi379_1 hl379_1;have HR379_2:=ak hi379_2;have HC379_2:=ak hl379_2;clear hi379_2 hl379_2;replace p379:=eq_true p379;replace q379:=eq_true q379;have p380:0≤(a2:Int):=dt;have q380:a2<(l1.length:Int):=dt;obtain ⟨ad380,A380_0,c380_0,e380,hx380_0,hl380_0,hi380_0⟩:=at_L10 HR1.out a2 p380 q380;have hw380_0:=hx380_0;cases e380;replace hx380_0:=(qd HB hx380_0 :)
       have HR380_0:=ak hi380_0;have HC380_0:=ak hl380_0;clear hi380_0 hl380_0;replace p380:=eq_true p380;replace q380:=eq_true q380
       refine start_ (n:=14) (S:=fun w'=>w'.cell? ⟨gb375,0,none⟩=some (.int .i64 a0_0)∧w'.cell? ⟨gb375,1,none⟩=some (.int .i64 a0_1)∧w'.cell? ⟨gb375,2,none⟩=some (.slice (some ad379) l0_2.length c0_2)∧w'.cell? (ad379.add ((a2).toNat*3))=some (.int .i64 ((rd_T43 l0_2 a2).f0))∧w'.cell? ⟨(ad379.add ((a2).toNat*3)).block,(ad379.add ((a2).toNat*3)).off+1,none⟩=some (.slice A379_1 ((rd_T43 l0_2 a2).f1).length c379_1)∧w'.cell? ⟨(ad379.add ((a2).toNat*3)).block,(ad379.add ((a2).toNat*3)).off+2,none⟩=some (.slice A379_2 ((rd_T43 l0_2 a2).f2).length c379_2)∧w'.cell? (ad380.add (a2).toNat)=some (.slice A380_0 (rd_L10 l1 a2).length c380_0)) (ds:=[]) (bz 14 0) (by kernel_rfl) rfl rfl ⟨qj BK375 0,qj BK375 1,qj BK375 2,((qd HB hw379_0 :)),((qd HB hw379_1 :)),((qd HB hw379_2 :)),((qd HB hw380_0 :))⟩ (fun hHeld=>?_);refine with_tabW zmet.tab2 zmet.bits2 (fun HT_ HW_=>?_)
       generalize w15.drew=w17 at HO378 BK375 HB HR379_1 HR379_2 HR380_0 hx379_0 hx379_1 hx379_2 hx380_0 hHeld ⊢;refine pu 0 22 14 1 ?_;refine pq 2 24 14 5 ?_;refine pq 6 28 14 69 ?_;refine pq 7 29 14 197 ?_;refine pq 8 30 14 453 ?_;refine pq 10 32 14 1477 ?_;refine pq 11 33 14 3525 ?_;refine tq 1 23 14 3527 ?_;refine pq 3 25 14 3535 ?_;refine pq 4 26 14 3551 ?_;refine tq 5 27 14 3583 ?_;refine tk 9 31 14 12 ?_;refine one_ (i:=12) (N:=some 34) (bz 14 13) rfl rfl (one_of HT_.out (by kernel_rfl)) (by decide) (fun K hK=>?_)
       refine goes_ Try.func45 (by kernel_rfl) rfl #[.slice A379_1 ((rd_T43 l0_2 a2).f1).length c379_1,.slice A380_0 (rd_L10 l1 a2).length c380_0,.int .i64 a3,.int .i64 a4] (by rfl) rfl rfl qc ?_
       with_reducible refine (zalong.calls k _ _ ((rd_T43 l0_2 a2).f1) _ _ (rd_L10 l1 a2) a3 a4 t381 _ ?side1 ?side2 ?side3 ?side4 A11.out).mono ?_
       (case side1=>exact qh (Kd.C_below HR379_1.out HB.out))
       (case side2=>exact HC379_1.out)
       (case side3=>exact qh (Kd.C_below HR380_0.out HB.out))
       (case side4=>exact HC380_0.out)
       rintro e w18 ⟨rfl,hb⟩;refine ⟨_,rfl,?_⟩;have n0_:=ak (Kd.R_below (rk HO378) hb);have n1_:=ak (blk_below (g:=gb375) (o:= .cells #[.int .i64 a0_0,.int .i64 a0_1,.slice (some ad379) l0_2.length c0_2] 24 (0,0)) (bk BK375) hb);have n2_:=ak (below_step (qm GE375) hb);clear HO378;clear BK375;clear HB;have HO378:=n0_;have BK375:=n1_;have HB:=n2_;clear n0_ n1_ n2_
       (try clear hb)
       (try clear hb2)
       (try clear hk)
       (try clear hi)
       refine hK.out _ _ ⟨qj BK375 0,qj BK375 1,qj BK375 2,((qd HB hw379_0 :)),((qd HB hw379_1 :)),((qd HB hw379_2 :)),((qd HB hw380_0 :))⟩ (fun hHeld=>?_);clear hK K;refine norm_ (a':=?_) ?_ ?_;rotate_left
       ·show Act.put _ (some 34) _=_
        simp only [Act.put,sA,sB,sC,i64_w,i32_w];rfl
       refine pu 13 12 14 14 ?_;refine done_ (done_of HT_.out (by kernel_rfl)) ?_
       try go_wp2_with (first |((with_reducible refine gate_dst (N:=40) rfl ?_);(try (refine gate_guard (by rfl) ?_;dsimp only));refine Kd.R_lit (Kd.int .i64) _ 3 ?hg (N:=40) ?hd (xs:=([a2]:List Int)) (inner:=[.int .i64 a2]) (ok:=fun _=>True) (okp:=fun _=>True) ?hr ?hp (fun _ hk=>hk) trivial (Below.refl _ _) (Nat.le_refl _) (by simp) ?_;(case hd=>rfl);(case hg=>rfl);(case hr=>first |(go_simp;done) |(go_simp;rfl));(case hp=>exact (Reps.one (show Kd.M (Kd.int .i64) _ _ _ a2 [.int .i64 a2] from rfl) (Reps.none _ _)));intro v383 w19 ho20 hb hg_ hnew_;clear hg_ hnew_;(first |rw [←Ny382.out] at ho20 |(simp only [Int.reduceToNat] at ho20;rw [←Ny382.out] at ho20));have n0_:=ak (Kd.R_below (rk HO378) hb);have n1_:=ak (Kd.R_lower ho20 (below_size (qm GE375)));have n2_:=ak (blk_below (g:=gb375) (o:= .cells #[.int .i64 a0_0,.int .i64 a0_1,.slice (some ad379) l0_2.length c0_2] 24 (0,0)) (bk BK375) hb);have n3_:=ak (below_step (qm GE375) hb);clear HO378;clear BK375;clear HB;have HO378:=n0_;have HO384:=n1_;have BK375:=n2_;have HB:=n3_;clear n0_ n1_ n2_ n3_;clear hb ho20))
       go_loopg [13,14] k (fun kq v13 v14 w'=>∃ (x11_1:List Bool) (x13_1:List Int) (x14_1:Int),v14= .int .i64 x14_1∧Aside0 (zmet.l0 kq l1 a4 x11_1 x13_1 x14_1 a0_0 a0_1 l0_2=some r)∧Aside0 (kq≤k)∧Aside0 (Kd.R Kd.bool 4 w' w.heap.size (fun _=>True) v377 x11_1)∧Aside0 (Kd.R (Kd.int .i64) 3 w' w.heap.size (fun _=>True) v13 x13_1)∧Aside0 (w'.heap[gb375]? =some (.cells #[.int .i64 a0_0,.int .i64 a0_1,(.slice (some ad379) l0_2.length c0_2)] 24 (0,0)))∧Aside0 (Below w.heap.size w w'))
       case atStart=>exact ⟨(y376),(y382),(0),qa,H',⟨Nat.le_refl _⟩,⟨rk HO378⟩,⟨rk HO384⟩,⟨bk BK375⟩,⟨by repeat (first |(with_reducible first |exact HB.out |apply below_alloc |apply pw_below_drewN |apply below_drew1 |refine below_set ?_ GE375.out) |exact HB.out)⟩⟩
       case round =>
        clear H'
        try clear c1
        try clear c2
        try clear p2
        try clear c3
        try clear p3
        try clear q3
        try clear hx3
        try clear c4
        try clear c6
        try clear c6b0
        try clear c6b1
        try clear c7
        try clear c7b0
        try clear c7b1
        try clear c8
        try clear c8b0
        try clear c9
        try clear c9b0
        try clear c10
        try clear c10b0
        try clear c12
        try clear c12b0
        try clear c12b1
        try clear hcz14_0
        try clear hcz14_1
        try clear hcz14_2
        try clear hfz14_0
        try clear hfz14_1
        try clear hfz14_2
        try clear hx379_0
        try clear hx379_1
        try clear hx379_2
        try clear hx380_0
        try clear p379
        try clear p380
        try clear q379
        try clear q380
        obtain ⟨x11_1,x13_1,x14_1,rfl,HA,HK1,HO_11,HO_13,BK375,HB⟩:=hrel;cases gk with
        |zero=>exact absurd HA.out (by simp [zmet.l0])
        |succ k1 =>
         have H:=HA.out;clear HA;simp only [zmet.l0] at H
         by_cases c21:x14_1<(x13_1.length:Int)
         ·rw [if_pos c21] at H;have c21b0:decide (x14_1<(x13_1.length:Int))=true:=decide_eq_true c21;clear c21
          by_cases c22:0≤x14_1
          ·rw [if_pos c22] at H;have c22b0:decide (0≤x14_1)=true:=decide_eq_true c22;clear c22
           by_cases c23:0≤(rd x13_1 x14_1)
           ·rw [if_pos c23] at H;have c23b0:decide (0≤(rd x13_1 x14_1))=true:=decide_eq_true c23;clear c23
            by_cases c24:(rd x13_1 x14_1)<(l0_2.length:Int)
            ·rw [if_pos c24] at H;have c24b0:decide ((rd x13_1 x14_1)<(l0_2.length:Int))=true:=decide_eq_true c24;clear c24;have H':=ak H;clear H;obtain ⟨Ao25,co25,eo25⟩:=Kd.R_slice HO_13.out;subst eo25
             try go_wp2
             have n0_:=ak (Kd.R_drew HO_11.out);have n1_:=ak (Kd.R_drew HO_13.out);have n2_:=ak (blk_drew BK375.out);have n3_:=ak (below_drew1 HB.out);clear HO_11;clear HO_13;clear BK375;clear HB;have HO_11:=n0_;have HO_13:=n1_;have BK375:=n2_;have HB:=n3_;clear n0_ n1_ n2_ n3_;have p385:0≤(x14_1:Int):=dt;have q385:x14_1<(x13_1.length:Int):=dt;obtain ⟨ad385,e385,hx385_0⟩:=Kd.at_int (Kd.R_reads' HO_13.out).2.2 x14_1 p385 q385;cases e385;replace p385:=eq_true p385;replace q385:=eq_true q385;have p386:0≤((rd x13_1 x14_1):Int):=dt
             have q386:(rd x13_1 x14_1)<(l0_2.length:Int):=dt;obtain ⟨ad386,A386_1,c386_1,A386_2,c386_2,e386,hx386_0,hx386_1,hx386_2,hl386_1,hi386_1,hl386_2,hi386_2⟩:=at_T43 HR0_2.out (rd x13_1 x14_1) p386 q386;have hw386_2:=hx386_2;have hw386_1:=hx386_1;have hw386_0:=hx386_0;obtain rfl:ad379=ad386:=(by injection e386)
             replace hx386_0:=(qd HB hx386_0 :)
             replace hx386_1:=(qd HB hx386_1 :)
             replace hx386_2:=(qd HB hx386_2 :)
             have HR386_1:=ak hi386_1;have HC386_1:=ak hl386_1;clear hi386_1 hl386_1;have HR386_2:=ak hi386_2;have HC386_2:=ak hl386_2;clear hi386_2 hl386_2;replace p386:=eq_true p386;replace q386:=eq_true q386
             refine start_ (n:=10) (S:=fun w'=>w'.cell? ⟨gb375,0,none⟩=some (.int .i64 a0_0)∧w'.cell? ⟨gb375,1,none⟩=some (.int .i64 a0_1)∧w'.cell? ⟨gb375,2,none⟩=some (.slice (some ad379) l0_2.length c0_2)∧w'.cell? (ad385.add (x14_1).toNat)=some (.int .i64 (rd x13_1 x14_1))∧w'.cell? (ad379.add (((rd x13_1 x14_1)).toNat*3))=some (.int .i64 ((rd_T43 l0_2 (rd x13_1 x14_1)).f0))∧w'.cell? ⟨(ad379.add (((rd x13_1 x14_1)).toNat*3)).block,(ad379.add (((rd x13_1 x14_1)).toNat*3)).off+1,none⟩=some (.slice A386_1 ((rd_T43 l0_2 (rd x13_1 x14_1)).f1).length c386_1)∧w'.cell? ⟨(ad379.add (((rd x13_1 x14_1)).toNat*3)).block,(ad379.add (((rd x13_1 x14_1)).toNat*3)).off+2,none⟩=some (.slice A386_2 ((rd_T43 l0_2 (rd x13_1 x14_1)).f2).length c386_2)) (ds:=[]) (bz 10 0) (by kernel_rfl) rfl rfl ⟨qj BK375 0,qj BK375 1,qj BK375 2,hx385_0,((qd HB hw386_0 :)),((qd HB hw386_1 :)),((qd HB hw386_2 :))⟩ (fun hHeld=>?_);refine with_tabW zmet.tab9 zmet.bits9 (fun HT_ HW_=>?_)
             generalize wr.drew=w26 at HO_11 HO_13 BK375 HB HR386_1 HR386_2 hx385_0 hx386_0 hx386_1 hx386_2 hHeld ⊢;refine pu 0 47 10 1 ?_;refine pq 2 49 10 5 ?_;refine pq 3 50 10 13 ?_;refine pq 4 51 10 29 ?_;refine tk 1 48 10 5 ?_;refine tk 5 52 10 6 ?_;refine pu 6 53 10 7 ?_;refine pu 7 54 10 8 ?_;refine tk 8 55 10 9 ?_;refine pu 9 15 10 10 ?_;refine done_ (done_of HT_.out (by kernel_rfl)) ?_
             try go_wp2
             go_loopg [13,16] k1 (fun kq v13 v16 w'=>∃ (x11_2:List Bool) (x13_2:List Int) (x16_2:Int),v16= .int .i64 x16_2∧Aside0 (zmet.l1 kq l1 a4 x11_2 x13_2 x14_1 ((rd_T43 l0_2 (rd x13_1 x14_1)).f2) x16_2 a0_0 a0_1 l0_2=some r)∧Aside0 (kq≤k1)∧Aside0 (Kd.R Kd.bool 4 w' w.heap.size (fun _=>True) v377 x11_2)∧Aside0 (Kd.R (Kd.int .i64) 3 w' w.heap.size (fun _=>True) v13 x13_2)∧Aside0 (w'.heap[gb375]? =some (.cells #[.int .i64 a0_0,.int .i64 a0_1,(.slice (some ad379) l0_2.length c0_2)] 24 (0,0)))∧Aside0 (Below w.heap.size w w'))
             case atStart=>exact ⟨(x11_1),(x13_1),(0),qa,H',⟨Nat.le_refl _⟩,⟨rk HO_11⟩,⟨rk HO_13⟩,⟨bk BK375⟩,⟨by repeat (first |(with_reducible first |exact HB.out |apply below_alloc |apply pw_below_drewN |apply below_drew1 |refine below_set ?_ GE375.out) |exact HB.out)⟩⟩
             case round =>
              clear H'
              try clear c1
              try clear c2
              try clear p2
              try clear c3
              try clear p3
              try clear q3
              try clear hx3
              try clear c4
              try clear c6
              try clear c6b0
              try clear c6b1
              try clear c7
              try clear c7b0
              try clear c7b1
              try clear c8
              try clear c8b0
              try clear c9
              try clear c9b0
              try clear c10
              try clear c10b0
              try clear c12
              try clear c12b0
              try clear c12b1
              try clear c21
              try clear c21b0
              try clear c22
              try clear c22b0
              try clear c23
              try clear c23b0
              try clear c24
              try clear c24b0
              try clear c25
              try clear hcz14_0
              try clear hcz14_1
              try clear hcz14_2
              try clear hfz14_0
              try clear hfz14_1
              try clear hfz14_2
              try clear hx379_0
              try clear hx379_1
              try clear hx379_2
              try clear hx380_0
              try clear hx385_0
              try clear hx386_0
              try clear hx386_1
              try clear hx386_2
              try clear p2
              try clear p3
              try clear p379
              try clear p380
              try clear p385
              try clear p386
              try clear q3
              try clear q379
              try clear q380
              try clear q385
              try clear q386
              obtain ⟨x11_2,x13_2,x16_2,rfl,HA,HK2,HO_11,HO_13,BK375,HB⟩:=hrel;cases gk with
              |zero=>exact absurd HA.out (by simp [zmet.l1])
              |succ k2 =>
               have H:=HA.out;clear HA;simp only [zmet.l1] at H
               by_cases c27:x16_2<(((rd_T43 l0_2 (rd x13_1 x14_1)).f2).length:Int)
               ·rw [if_pos c27] at H;have c27b0:decide (x16_2<(((rd_T43 l0_2 (rd x13_1 x14_1)).f2).length:Int))=true:=decide_eq_true c27;clear c27
                by_cases c28:0≤x16_2
                ·rw [if_pos c28] at H;have c28b0:decide (0≤x16_2)=true:=decide_eq_true c28;clear c28;have HC29:=ak H;clear H;have p387:0≤(x16_2:Int):=dt;have q387:x16_2<(((rd_T43 l0_2 (rd x13_1 x14_1)).f2).length:Int):=dt;obtain ⟨ad387,e387,hx387_0⟩:=Kd.at_int HR386_2.out x16_2 p387 q387;cases e387;replace hx387_0:=(qd HB hx387_0 :)
                 replace p387:=eq_true p387;replace q387:=eq_true q387
                 go_upto_region 14 with (fail)
                 go_cut [79] (fun v79 wc=>∃ (kq:Nat) (x79_28:Bool),v79= .bool x79_28∧Aside0 (zmet.j2 kq l1 a4 x11_2 x13_2 x14_1 ((rd_T43 l0_2 (rd x13_1 x14_1)).f2) x16_2 (rd ((rd_T43 l0_2 (rd x13_1 x14_1)).f2) x16_2) x79_28 a0_0 a0_1 l0_2=some r)∧Aside0 (kq≤k2)∧Aside0 (Kd.R Kd.bool 4 wc w.heap.size (fun _=>True) v377 x11_2)∧Aside0 (Kd.R (Kd.int .i64) 3 wc w.heap.size (fun _=>True) u13 x13_2)∧Aside0 (wc.heap[gb375]? =some (.cells #[.int .i64 a0_0,.int .i64 a0_1,(.slice (some ad379) l0_2.length c0_2)] 24 (0,0)))∧Aside0 (Below w.heap.size w wc))
                 case first =>
                  have H:=HC29.out;clear HC29
                  by_cases c30:(rd ((rd_T43 l0_2 (rd x13_1 x14_1)).f2) x16_2)<0
                  ·rw [if_pos c30] at H;have c30b0:decide ((rd ((rd_T43 l0_2 (rd x13_1 x14_1)).f2) x16_2)<0)=true:=decide_eq_true c30;clear c30
                   (first |rw [c30b0] |(simp only [i64_w,i32_w];rw [c30b0]) |skip)
                   have H':=ak H;clear H
                   go_wp2
                   go_meet
                   case rel=>exact ⟨_,(true),qa,H',⟨by have:=HK1.out;have:=HK2.out;first |omega |exact Nat.le_refl _⟩,⟨rk HO_11⟩,⟨rk HO_13⟩,⟨bk BK375⟩,⟨by repeat (first |(with_reducible first |exact HB.out |apply below_alloc |apply pw_below_drewN |apply below_drew1 |refine below_set ?_ GE375.out) |exact HB.out)⟩⟩
                  ·rw [if_neg c30] at H;have c30b0:decide ((rd ((rd_T43 l0_2 (rd x13_1 x14_1)).f2) x16_2)<0)=false:=decide_eq_false c30;clear c30
                   (first |rw [c30b0] |(simp only [i64_w,i32_w];rw [c30b0]) |skip)
                   by_cases c31:(rd ((rd_T43 l0_2 (rd x13_1 x14_1)).f2) x16_2)≥(x11_2.length:Int)
                   ·rw [if_pos c31] at H;have c31b0:decide ((x11_2.length:Int)≤(rd ((rd_T43 l0_2 (rd x13_1 x14_1)).f2) x16_2))=true:=decide_eq_true c31;clear c31;have H':=ak H;clear H;obtain ⟨Ao32,co32,eo32⟩:=Kd.R_slice HO_11.out;subst eo32
                    go_wp2
                    go_meet
                    case rel=>exact ⟨_,(true),qa,H',⟨by have:=HK1.out;have:=HK2.out;first |omega |exact Nat.le_refl _⟩,⟨rk HO_11⟩,⟨rk HO_13⟩,⟨bk BK375⟩,⟨by repeat (first |(with_reducible first |exact HB.out |apply below_alloc |apply pw_below_drewN |apply below_drew1 |refine below_set ?_ GE375.out) |exact HB.out)⟩⟩
                   ·rw [if_neg c31] at H;have c31b0:decide ((x11_2.length:Int)≤(rd ((rd_T43 l0_2 (rd x13_1 x14_1)).f2) x16_2))=false:=decide_eq_false c31;clear c31
                    by_cases c33:0≤(rd ((rd_T43 l0_2 (rd x13_1 x14_1)).f2) x16_2)
                    ·rw [if_pos c33] at H;have c33b0:decide (0≤(rd ((rd_T43 l0_2 (rd x13_1 x14_1)).f2) x16_2))=true:=decide_eq_true c33;clear c33
                     by_cases c34:(rd ((rd_T43 l0_2 (rd x13_1 x14_1)).f2) x16_2)<(x11_2.length:Int)
                     ·rw [if_pos c34] at H;have c34b0:decide ((rd ((rd_T43 l0_2 (rd x13_1 x14_1)).f2) x16_2)<(x11_2.length:Int))=true:=decide_eq_true c34;clear c34;have H':=ak H;clear H;obtain ⟨Ao35,co35,eo35⟩:=Kd.R_slice HO_11.out;subst eo35;have p388:0≤((rd ((rd_T43 l0_2 (rd x13_1 x14_1)).f2) x16_2):Int):=dt;have q388:(rd ((rd_T43 l0_2 (rd x13_1 x14_1)).f2) x16_2)<(x11_2.length:Int):=dt;obtain ⟨ad388,e388,hx388_0⟩:=Kd.at_bool (Kd.R_reads' HO_11.out).2.2 (rd ((rd_T43 l0_2 (rd x13_1 x14_1)).f2) x16_2) p388 q388;cases e388;replace p388:=eq_true p388
                      replace q388:=eq_true q388
                      go_wp2
                      go_meet
                      case rel=>exact ⟨_,(rdOf false x11_2 (rd ((rd_T43 l0_2 (rd x13_1 x14_1)).f2) x16_2)),qa,H',⟨by have:=HK1.out;have:=HK2.out;first |omega |exact Nat.le_refl _⟩,⟨rk HO_11⟩,⟨rk HO_13⟩,⟨bk BK375⟩,⟨by repeat (first |(with_reducible first |exact HB.out |apply below_alloc |apply pw_below_drewN |apply below_drew1 |refine below_set ?_ GE375.out) |exact HB.out)⟩⟩
                     ·rw [if_neg c34] at H;exact absurd H (by simp)
                    ·rw [if_neg c33] at H;exact absurd H (by simp)
                 case rest =>
                  clear HC29
                  try clear c1
                  try clear c2
                  try clear p2
                  try clear c3
                  try clear p3
                  try clear q3
                  try clear hx3
                  try clear c4
                  try clear c6
                  try clear c6b0
                  try clear c6b1
                  try clear c7
                  try clear c7b0
                  try clear c7b1
                  try clear c8
                  try clear c8b0
                  try clear c9
                  try clear c9b0
                  try clear c10
                  try clear c10b0
                  try clear c12
                  try clear c12b0
                  try clear c12b1
                  try clear c21
                  try clear c21b0
                  try clear c22
                  try clear c22b0
                  try clear c23
                  try clear c23b0
                  try clear c24
                  try clear c24b0
                  try clear c25
                  try clear c27
                  try clear c27b0
                  try clear c28
                  try clear c28b0
                  try clear c30
                  try clear c30b0
                  try clear c31
                  try clear c31b0
                  try clear c33
                  try clear c33b0
                  try clear c34
                  try clear c34b0
                  try clear hcz14_0
                  try clear hcz14_1
                  try clear hcz14_2
                  try clear hfz14_0
                  try clear hfz14_1
                  try clear hfz14_2
                  try clear hx379_0
                  try clear hx379_1
                  try clear hx379_2
                  try clear hx380_0
                  try clear hx385_0
                  try clear hx386_0
                  try clear hx386_1
                  try clear hx386_2
                  try clear hx387_0
                  try clear hx388_0
                  try clear p2
                  try clear p3
                  try clear p379
                  try clear p380
                  try clear p385
                  try clear p386
                  try clear p387
                  try clear p388
                  try clear q3
                  try clear q379
                  try clear q380
                  try clear q385
                  try clear q386
                  try clear q387
                  try clear q388
                  obtain ⟨kq,x79_28,rfl,HA,HJ28,HO_11,HO_13,BK375,HB⟩:=hcut;cases kq with
                  |zero=>exact absurd HA.out (by simp [zmet.j2])
                  |succ kj28 =>
                   have H:=HA.out;clear HA;simp only [zmet.j2] at H
                   by_cases c36:x79_28=true
                   ·subst c36;have H1:(zmet.l1 kj28 l1 a4 x11_2 x13_2 x14_1 ((rd_T43 l0_2 (rd x13_1 x14_1)).f2) (wrap64 (x16_2+1)) a0_0 a0_1 l0_2)=some r:=by rw [if_pos rfl] at H;exact H
                    clear H;have H:=H1;clear H1;have H':=ak H;clear H
                    go_wp2
                    go_roundg kj28
                    case measure=>have:=HK1.out;have:=HK2.out;have:=HJ28.out;omega
                    case rel=>exact ⟨(x11_2),(x13_2),(wrap64 (x16_2+1)),qa,H',⟨by have:=HK1.out;have:=HK2.out;have:=HJ28.out;omega⟩,⟨rk HO_11⟩,⟨rk HO_13⟩,⟨bk BK375⟩,⟨by repeat (first |(with_reducible first |exact HB.out |apply below_alloc |apply pw_below_drewN |apply below_drew1 |refine below_set ?_ GE375.out) |exact HB.out)⟩⟩
                   ·replace c36:=Bool.eq_false_iff.mpr c36;subst c36
                    have H1:(if 0≤(rd ((rd_T43 l0_2 (rd x13_1 x14_1)).f2) x16_2) then (if (rd ((rd_T43 l0_2 (rd x13_1 x14_1)).f2) x16_2)<(x11_2.length:Int) then ((some (x11_2.set ((rd ((rd_T43 l0_2 (rd x13_1 x14_1)).f2) x16_2):Int).toNat true:List Bool)).bind fun y389=>(if (rd ((rd_T43 l0_2 (rd x13_1 x14_1)).f2) x16_2)<(l0_2.length:Int) then (if (rd ((rd_T43 l0_2 (rd x13_1 x14_1)).f2) x16_2)<(l1.length:Int) then ((zalong.f kj28 ((rd_T43 l0_2 (rd ((rd_T43 l0_2 (rd x13_1 x14_1)).f2) x16_2)).f1) (rd_L10 l1 (rd ((rd_T43 l0_2 (rd x13_1 x14_1)).f2) x16_2)) 0 a4).bind fun t392=>(if t392=1 then (some true) else (if t392=0 then (if x13_2.length<17592186044416 then (zmet.l1 kj28 l1 a4 y389 (x13_2++[(rd ((rd_T43 l0_2 (rd x13_1 x14_1)).f2) x16_2)]) x14_1 ((rd_T43 l0_2 (rd x13_1 x14_1)).f2) (wrap64 (x16_2+1)) a0_0 a0_1 l0_2) else (none)) else (zmet.l1 kj28 l1 a4 y389 x13_2 x14_1 ((rd_T43 l0_2 (rd x13_1 x14_1)).f2) (wrap64 (x16_2+1)) a0_0 a0_1 l0_2)))) else (none)) else (none))) else (none)) else (none))=some r:=by rw [if_neg (show ¬ (false=true) by decide)] at H;exact H
                    clear H;have H:=H1;clear H1
                    by_cases c37:0≤(rd ((rd_T43 l0_2 (rd x13_1 x14_1)).f2) x16_2)
                    ·rw [if_pos c37] at H;have c37b0:decide (0≤(rd ((rd_T43 l0_2 (rd x13_1 x14_1)).f2) x16_2))=true:=decide_eq_true c37;clear c37
                     by_cases c38:(rd ((rd_T43 l0_2 (rd x13_1 x14_1)).f2) x16_2)<(x11_2.length:Int)
                     ·rw [if_pos c38] at H;have c38b0:decide ((rd ((rd_T43 l0_2 (rd x13_1 x14_1)).f2) x16_2)<(x11_2.length:Int))=true:=decide_eq_true c38;clear c38;obtain ⟨y389,hy389⟩:∃ y_:List Bool,y_=(x11_2.set ((rd ((rd_T43 l0_2 (rd x13_1 x14_1)).f2) x16_2):Int).toNat true):=⟨_,rfl⟩
                      replace H:(if (rd ((rd_T43 l0_2 (rd x13_1 x14_1)).f2) x16_2)<(l0_2.length:Int) then (if (rd ((rd_T43 l0_2 (rd x13_1 x14_1)).f2) x16_2)<(l1.length:Int) then ((zalong.f kj28 ((rd_T43 l0_2 (rd ((rd_T43 l0_2 (rd x13_1 x14_1)).f2) x16_2)).f1) (rd_L10 l1 (rd ((rd_T43 l0_2 (rd x13_1 x14_1)).f2) x16_2)) 0 a4).bind fun t392=>(if t392=1 then (some true) else (if t392=0 then (if x13_2.length<17592186044416 then (zmet.l1 kj28 l1 a4 y389 (x13_2++[(rd ((rd_T43 l0_2 (rd x13_1 x14_1)).f2) x16_2)]) x14_1 ((rd_T43 l0_2 (rd x13_1 x14_1)).f2) (wrap64 (x16_2+1)) a0_0 a0_1 l0_2) else (none)) else (zmet.l1 kj28 l1 a4 y389 x13_2 x14_1 ((rd_T43 l0_2 (rd x13_1 x14_1)).f2) (wrap64 (x16_2+1)) a0_0 a0_1 l0_2)))) else (none)) else (none))=some r:=by first |(rw [hy389];with_reducible exact H) |(have H2_:=(Option.bind_some _ _).symm.trans H;rw [hy389];with_reducible exact H2_) |(have H2_:=(Option.bind_some _ _).symm.trans H;with_reducible exact H2_) |with_reducible exact H |(rw [hy389];exact H) |exact H
                      have Ny389:=ak hy389;clear hy389
                      by_cases c40:(rd ((rd_T43 l0_2 (rd x13_1 x14_1)).f2) x16_2)<(l0_2.length:Int)
                      ·rw [if_pos c40] at H;have c40b0:decide ((rd ((rd_T43 l0_2 (rd x13_1 x14_1)).f2) x16_2)<(l0_2.length:Int))=true:=decide_eq_true c40;clear c40
                       by_cases c41:(rd ((rd_T43 l0_2 (rd x13_1 x14_1)).f2) x16_2)<(l1.length:Int)
                       ·rw [if_pos c41] at H;have c41b0:decide ((rd ((rd_T43 l0_2 (rd x13_1 x14_1)).f2) x16_2)<(l1.length:Int))=true:=decide_eq_true c41;clear c41;replace H:=Option.bind_eq_some_iff.mp H;obtain ⟨t392,A420,H⟩:=H
                        replace H:(if t392=1 then (some true) else (if t392=0 then (if x13_2.length<17592186044416 then (zmet.l1 kj28 l1 a4 y389 (x13_2++[(rd ((rd_T43 l0_2 (rd x13_1 x14_1)).f2) x16_2)]) x14_1 ((rd_T43 l0_2 (rd x13_1 x14_1)).f2) (wrap64 (x16_2+1)) a0_0 a0_1 l0_2) else (none)) else (zmet.l1 kj28 l1 a4 y389 x13_2 x14_1 ((rd_T43 l0_2 (rd x13_1 x14_1)).f2) (wrap64 (x16_2+1)) a0_0 a0_1 l0_2)))=some r:=H;have A42:=ak A420;clear A420
                        by_cases c43:t392=1
                        ·rw [if_pos c43] at H;have c43b0:(t392==1)=true:=beq_iff_eq.mpr c43;have c43b1:(t392 != 1)=false:=bne_eq_false_iff_eq.mpr c43;clear c43;obtain rfl:=Option.some.inj H;have p39:0≤((rd ((rd_T43 l0_2 (rd x13_1 x14_1)).f2) x16_2):Int):=dt;have q39:((rd ((rd_T43 l0_2 (rd x13_1 x14_1)).f2) x16_2):Int)<((x11_2.length:Int):Int):=dt;obtain ⟨go39,co39,eo39,gb39,gl39,cl39,HG39⟩:=Kd.R_form HO_11.out (by omega)
                         (first |cases eo39 |(injection eo39 with ea_ en_ ec_;(first |subst ea_ |(injection ea_ with ea_;subst ea_));subst ec_;clear en_))
                         have GB39:=ak gb39;have GG39:=ak HG39;clear gb39 gl39 HG39;obtain ⟨hx39_0,hf39_0⟩:=Kd.R_celln false HO_11.out ((rd ((rd_T43 l0_2 (rd x13_1 x14_1)).f2) x16_2):Int) p39 q39;replace p39:=eq_true p39;replace q39:=eq_true q39;have HP44:=Kd.R_putg HO_11.out ((rd ((rd_T43 l0_2 (rd x13_1 x14_1)).f2) x16_2):Int) true
                         try go_wp2_with (first |((with_reducible refine gate_store (t:=4) (p:=82) rfl ?_);refine store_event (t:=4) (p:=82) (v:=?vo_w45) (w1:=(wc.setCell ⟨go39,((rd ((rd_T43 l0_2 (rd x13_1 x14_1)).f2) x16_2):Int).toNat,none⟩ (.bool true))) ?hg ?ho ?hn ?hr ?_;(case ho=>rfl);(case hg=>rfl);(case hn=>rfl);(case hr=>first |(go_simp;done) |(go_simp;rfl));intro w45 hw;have hg:wc.grownBy w45 (some go39):=(by rw [hw];exact HP44.2);have hp_:Kd.R Kd.bool 4 w45 w.heap.size (fun _=>True) (.slice (some ⟨go39,0,none⟩) x11_2.length co39) y389:=(by rw [hw,Ny389.out];exact HP44.1);clear HP44;have n0_:=ak (hp_);have n1_:=ak (Kd.R_over' (v:=(.slice (some ⟨go39,0,none⟩) x11_2.length co39)) (rk HO_13) (Kd.R_typed HO_11.out) (by decide) hg);have n2_:=ak (blk_grown (g:=gb375) (o:= .cells #[.int .i64 a0_0,.int .i64 a0_1,.slice (some ad379) l0_2.length c0_2] 24 (0,0)) (bk BK375) hg (Kd.R_ne HO_11.out BK375.out (by decide)));have n3_:=ak ((by rw [hw];exact below_set (HB.out) GB39.out:Below w.heap.size w w45));clear HO_11;clear HO_13;clear BK375;clear HB;have HO_11:=n0_;have HO_13:=n1_;have BK375:=n2_;have HB:=n3_;clear n0_ n1_ n2_ n3_;clear hg hw hp_))
                         have n0_:=ak (Kd.R_drew HO_11.out);have n1_:=ak (Kd.R_drew HO_13.out);have n2_:=ak (blk_drew BK375.out);have n3_:=ak (below_drew1 HB.out);clear HO_11;clear HO_13;clear BK375;clear HB;have HO_11:=n0_;have HO_13:=n1_;have BK375:=n2_;have HB:=n3_;clear n0_ n1_ n2_ n3_;have p390:0≤((rd ((rd_T43 l0_2 (rd x13_1 x14_1)).f2) x16_2):Int):=dt;have q390:(rd ((rd_T43 l0_2 (rd x13_1 x14_1)).f2) x16_2)<(l0_2.length:Int):=dt
                         obtain ⟨ad390,A390_1,c390_1,A390_2,c390_2,e390,hx390_0,hx390_1,hx390_2,hl390_1,hi390_1,hl390_2,hi390_2⟩:=at_T43 HR0_2.out (rd ((rd_T43 l0_2 (rd x13_1 x14_1)).f2) x16_2) p390 q390;have hw390_2:=hx390_2;have hw390_1:=hx390_1;have hw390_0:=hx390_0;obtain rfl:ad379=ad390:=(by injection e390)
                         replace hx390_0:=(qd HB hx390_0 :)
                         replace hx390_1:=(qd HB hx390_1 :)
                         replace hx390_2:=(qd HB hx390_2 :)
                         have HR390_1:=ak hi390_1;have HC390_1:=ak hl390_1;clear hi390_1 hl390_1;have HR390_2:=ak hi390_2;have HC390_2:=ak hl390_2;clear hi390_2 hl390_2;replace p390:=eq_true p390;replace q390:=eq_true q390;have p391:0≤((rd ((rd_T43 l0_2 (rd x13_1 x14_1)).f2) x16_2):Int):=dt;have q391:(rd ((rd_T43 l0_2 (rd x13_1 x14_1)).f2) x16_2)<(l1.length:Int):=dt;obtain ⟨ad391,A391_0,c391_0,e391,hx391_0,hl391_0,hi391_0⟩:=at_L10 HR1.out (rd ((rd_T43 l0_2 (rd x13_1 x14_1)).f2) x16_2) p391 q391;have hw391_0:=hx391_0
                         obtain rfl:ad380=ad391:=(by injection e391)
                         replace hx391_0:=(qd HB hx391_0 :)
                         have HR391_0:=ak hi391_0;have HC391_0:=ak hl391_0;clear hi391_0 hl391_0;replace p391:=eq_true p391;replace q391:=eq_true q391
                         refine start_ (n:=13) (S:=fun w'=>w'.cell? ⟨gb375,0,none⟩=some (.int .i64 a0_0)∧w'.cell? ⟨gb375,1,none⟩=some (.int .i64 a0_1)∧w'.cell? ⟨gb375,2,none⟩=some (.slice (some ad379) l0_2.length c0_2)∧w'.cell? (ad379.add (((rd ((rd_T43 l0_2 (rd x13_1 x14_1)).f2) x16_2)).toNat*3))=some (.int .i64 ((rd_T43 l0_2 (rd ((rd_T43 l0_2 (rd x13_1 x14_1)).f2) x16_2)).f0))∧w'.cell? ⟨(ad379.add (((rd ((rd_T43 l0_2 (rd x13_1 x14_1)).f2) x16_2)).toNat*3)).block,(ad379.add (((rd ((rd_T43 l0_2 (rd x13_1 x14_1)).f2) x16_2)).toNat*3)).off+1,none⟩=some (.slice A390_1 ((rd_T43 l0_2 (rd ((rd_T43 l0_2 (rd x13_1 x14_1)).f2) x16_2)).f1).length c390_1)∧w'.cell? ⟨(ad379.add (((rd ((rd_T43 l0_2 (rd x13_1 x14_1)).f2) x16_2)).toNat*3)).block,(ad379.add (((rd ((rd_T43 l0_2 (rd x13_1 x14_1)).f2) x16_2)).toNat*3)).off+2,none⟩=some (.slice A390_2 ((rd_T43 l0_2 (rd ((rd_T43 l0_2 (rd x13_1 x14_1)).f2) x16_2)).f2).length c390_2)∧w'.cell? (ad380.add ((rd ((rd_T43 l0_2 (rd x13_1 x14_1)).f2) x16_2)).toNat)=some (.slice A391_0 (rd_L10 l1 (rd ((rd_T43 l0_2 (rd x13_1 x14_1)).f2) x16_2)).length c391_0)) (ds:=[]) (bz 13 0) (by kernel_rfl) rfl rfl ⟨qj BK375 0,qj BK375 1,qj BK375 2,((qd HB hw390_0 :)),((qd HB hw390_1 :)),((qd HB hw390_2 :)),((qd HB hw391_0 :))⟩ (fun hHeld=>?_);refine with_tabW zmet.tab16 zmet.bits16 (fun HT_ HW_=>?_)
                         generalize w45.drew=w46 at HO_11 HO_13 BK375 HB HR390_1 HR390_2 HR391_0 hx390_0 hx390_1 hx390_2 hx391_0 hHeld ⊢;refine pu 0 83 13 1 ?_;refine pq 2 85 13 5 ?_;refine pq 6 89 13 69 ?_;refine pq 7 90 13 197 ?_;refine pq 8 91 13 453 ?_;refine pq 10 93 13 1477 ?_;refine tq 1 84 13 1479 ?_;refine pq 3 86 13 1487 ?_;refine pq 4 87 13 1503 ?_;refine tq 5 88 13 1535 ?_;refine tk 9 92 13 11 ?_;refine one_ (i:=11) (N:=some 94) (bz 13 12) rfl rfl (one_of HT_.out (by kernel_rfl)) (by decide) (fun K hK=>?_)
                         refine goes_ Try.func45 (by kernel_rfl) rfl #[.slice A390_1 ((rd_T43 l0_2 (rd ((rd_T43 l0_2 (rd x13_1 x14_1)).f2) x16_2)).f1).length c390_1,.slice A391_0 (rd_L10 l1 (rd ((rd_T43 l0_2 (rd x13_1 x14_1)).f2) x16_2)).length c391_0,.int .i64 0,.int .i64 a4] (by rfl) rfl rfl qc ?_
                         with_reducible refine (zalong.calls kj28 _ _ ((rd_T43 l0_2 (rd ((rd_T43 l0_2 (rd x13_1 x14_1)).f2) x16_2)).f1) _ _ (rd_L10 l1 (rd ((rd_T43 l0_2 (rd x13_1 x14_1)).f2) x16_2)) 0 a4 t392 _ ?side1 ?side2 ?side3 ?side4 A42.out).mono ?_
                         (case side1=>exact qh (Kd.C_below HR390_1.out HB.out))
                         (case side2=>exact HC390_1.out)
                         (case side3=>exact qh (Kd.C_below HR391_0.out HB.out))
                         (case side4=>exact HC391_0.out)
                         rintro e w47 ⟨rfl,hb⟩;refine ⟨_,rfl,?_⟩;have n0_:=ak (Kd.R_below (rk HO_11) hb);have n1_:=ak (Kd.R_below (rk HO_13) hb);have n2_:=ak (blk_below (g:=gb375) (o:= .cells #[.int .i64 a0_0,.int .i64 a0_1,.slice (some ad379) l0_2.length c0_2] 24 (0,0)) (bk BK375) hb);have n3_:=ak (below_step (qm GE375) hb);clear HO_11;clear HO_13;clear BK375;clear HB;have HO_11:=n0_;have HO_13:=n1_;have BK375:=n2_;have HB:=n3_;clear n0_ n1_ n2_ n3_
                         (try clear hb)
                         (try clear hb2)
                         (try clear hk)
                         (try clear hi)
                         refine hK.out _ _ ⟨qj BK375 0,qj BK375 1,qj BK375 2,((qd HB hw390_0 :)),((qd HB hw390_1 :)),((qd HB hw390_2 :)),((qd HB hw391_0 :))⟩ (fun hHeld=>?_);clear hK K;refine norm_ (a':=?_) ?_ ?_;rotate_left
                         ·show Act.put _ (some 94) _=_
                          simp only [Act.put,sA,sB,sC,i64_w,i32_w];rfl
                         refine pu 12 12 13 13 ?_;refine done_ (done_of HT_.out (by kernel_rfl)) ?_
                         try go_wp2
                         go_ret
                         exact ⟨by first |rfl |(simp [errW_none,errW_some]<;>rfl) |(simp [*,errW_none,errW_some]<;>rfl),by repeat (first |(with_reducible first |exact HB.out |apply below_alloc |apply pw_below_drewN |apply below_drew1 |refine below_set ?_ GE375.out) |exact HB.out)⟩
                        ·rw [if_neg c43] at H;have c43b0:(t392==1)=false:=beq_eq_false_iff_ne.mpr c43;have c43b1:(t392 != 1)=true:=bne_iff_ne.mpr c43
                         by_cases c48:t392=0
                         ·rw [if_pos c48] at H;have c48b0:(t392==0)=true:=beq_iff_eq.mpr c48;have c48b1:(t392 != 0)=false:=bne_eq_false_iff_eq.mpr c48;clear c48
                          by_cases c49:x13_2.length<17592186044416
                          ·rw [if_pos c49] at H;have LMc49:=ak c49;clear c49;obtain ⟨y393,hy393⟩:∃ y_:List Int,y_=(x13_2++[(rd ((rd_T43 l0_2 (rd x13_1 x14_1)).f2) x16_2)]):=⟨_,rfl⟩
                           replace H:(zmet.l1 kj28 l1 a4 y389 y393 x14_1 ((rd_T43 l0_2 (rd x13_1 x14_1)).f2) (wrap64 (x16_2+1)) a0_0 a0_1 l0_2)=some r:=by first |(rw [hy393];with_reducible exact H) |(have H2_:=(Option.bind_some _ _).symm.trans H;rw [hy393];with_reducible exact H2_) |(have H2_:=(Option.bind_some _ _).symm.trans H;with_reducible exact H2_) |with_reducible exact H |(rw [hy393];exact H) |exact H
                           have Ny393:=ak hy393;clear hy393;have H':=ak H;clear H;have p39:0≤((rd ((rd_T43 l0_2 (rd x13_1 x14_1)).f2) x16_2):Int):=dt;have q39:((rd ((rd_T43 l0_2 (rd x13_1 x14_1)).f2) x16_2):Int)<((x11_2.length:Int):Int):=dt;obtain ⟨go39,co39,eo39,gb39,gl39,cl39,HG39⟩:=Kd.R_form HO_11.out (by omega)
                           (first |cases eo39 |(injection eo39 with ea_ en_ ec_;(first |subst ea_ |(injection ea_ with ea_;subst ea_));subst ec_;clear en_))
                           have GB39:=ak gb39;have GG39:=ak HG39;clear gb39 gl39 HG39;obtain ⟨hx39_0,hf39_0⟩:=Kd.R_celln false HO_11.out ((rd ((rd_T43 l0_2 (rd x13_1 x14_1)).f2) x16_2):Int) p39 q39;replace p39:=eq_true p39;replace q39:=eq_true q39;have HP50:=Kd.R_putg HO_11.out ((rd ((rd_T43 l0_2 (rd x13_1 x14_1)).f2) x16_2):Int) true
                           try go_wp2_with (first |((with_reducible refine gate_store (t:=4) (p:=82) rfl ?_);refine store_event (t:=4) (p:=82) (v:=?vo_w51) (w1:=(wc.setCell ⟨go39,((rd ((rd_T43 l0_2 (rd x13_1 x14_1)).f2) x16_2):Int).toNat,none⟩ (.bool true))) ?hg ?ho ?hn ?hr ?_;(case ho=>rfl);(case hg=>rfl);(case hn=>rfl);(case hr=>first |(go_simp;done) |(go_simp;rfl));intro w51 hw;have hg:wc.grownBy w51 (some go39):=(by rw [hw];exact HP50.2);have hp_:Kd.R Kd.bool 4 w51 w.heap.size (fun _=>True) (.slice (some ⟨go39,0,none⟩) x11_2.length co39) y389:=(by rw [hw,Ny389.out];exact HP50.1);clear HP50;have n0_:=ak (hp_);have n1_:=ak (Kd.R_over' (v:=(.slice (some ⟨go39,0,none⟩) x11_2.length co39)) (rk HO_13) (Kd.R_typed HO_11.out) (by decide) hg);have n2_:=ak (blk_grown (g:=gb375) (o:= .cells #[.int .i64 a0_0,.int .i64 a0_1,.slice (some ad379) l0_2.length c0_2] 24 (0,0)) (bk BK375) hg (Kd.R_ne HO_11.out BK375.out (by decide)));have n3_:=ak ((by rw [hw];exact below_set (HB.out) GB39.out:Below w.heap.size w w51));clear HO_11;clear HO_13;clear BK375;clear HB;have HO_11:=n0_;have HO_13:=n1_;have BK375:=n2_;have HB:=n3_;clear n0_ n1_ n2_ n3_;clear hg hw hp_))
                           have n0_:=ak (Kd.R_drew HO_11.out);have n1_:=ak (Kd.R_drew HO_13.out);have n2_:=ak (blk_drew BK375.out);have n3_:=ak (below_drew1 HB.out);clear HO_11;clear HO_13;clear BK375;clear HB;have HO_11:=n0_;have HO_13:=n1_;have BK375:=n2_;have HB:=n3_;clear n0_ n1_ n2_ n3_;have p390:0≤((rd ((rd_T43 l0_2 (rd x13_1 x14_1)).f2) x16_2):Int):=dt;have q390:(rd ((rd_T43 l0_2 (rd x13_1 x14_1)).f2) x16_2)<(l0_2.length:Int):=dt
                           obtain ⟨ad390,A390_1,c390_1,A390_2,c390_2,e390,hx390_0,hx390_1,hx390_2,hl390_1,hi390_1,hl390_2,hi390_2⟩:=at_T43 HR0_2.out (rd ((rd_T43 l0_2 (rd x13_1 x14_1)).f2) x16_2) p390 q390;have hw390_2:=hx390_2;have hw390_1:=hx390_1;have hw390_0:=hx390_0;obtain rfl:ad379=ad390:=(by injection e390)
                           replace hx390_0:=(qd HB hx390_0 :)
                           replace hx390_1:=(qd HB hx390_1 :)
                           replace hx390_2:=(qd HB hx390_2 :)
                           have HR390_1:=ak hi390_1;have HC390_1:=ak hl390_1;clear hi390_1 hl390_1;have HR390_2:=ak hi390_2;have HC390_2:=ak hl390_2;clear hi390_2 hl390_2;replace p390:=eq_true p390;replace q390:=eq_true q390;have p391:0≤((rd ((rd_T43 l0_2 (rd x13_1 x14_1)).f2) x16_2):Int):=dt;have q391:(rd ((rd_T43 l0_2 (rd x13_1 x14_1)).f2) x16_2)<(l1.length:Int):=dt;obtain ⟨ad391,A391_0,c391_0,e391,hx391_0,hl391_0,hi391_0⟩:=at_L10 HR1.out (rd ((rd_T43 l0_2 (rd x13_1 x14_1)).f2) x16_2) p391 q391;have hw391_0:=hx391_0
                           obtain rfl:ad380=ad391:=(by injection e391)
                           replace hx391_0:=(qd HB hx391_0 :)
                           have HR391_0:=ak hi391_0;have HC391_0:=ak hl391_0;clear hi391_0 hl391_0;replace p391:=eq_true p391;replace q391:=eq_true q391
                           refine start_ (n:=13) (S:=fun w'=>w'.cell? ⟨gb375,0,none⟩=some (.int .i64 a0_0)∧w'.cell? ⟨gb375,1,none⟩=some (.int .i64 a0_1)∧w'.cell? ⟨gb375,2,none⟩=some (.slice (some ad379) l0_2.length c0_2)∧w'.cell? (ad379.add (((rd ((rd_T43 l0_2 (rd x13_1 x14_1)).f2) x16_2)).toNat*3))=some (.int .i64 ((rd_T43 l0_2 (rd ((rd_T43 l0_2 (rd x13_1 x14_1)).f2) x16_2)).f0))∧w'.cell? ⟨(ad379.add (((rd ((rd_T43 l0_2 (rd x13_1 x14_1)).f2) x16_2)).toNat*3)).block,(ad379.add (((rd ((rd_T43 l0_2 (rd x13_1 x14_1)).f2) x16_2)).toNat*3)).off+1,none⟩=some (.slice A390_1 ((rd_T43 l0_2 (rd ((rd_T43 l0_2 (rd x13_1 x14_1)).f2) x16_2)).f1).length c390_1)∧w'.cell? ⟨(ad379.add (((rd ((rd_T43 l0_2 (rd x13_1 x14_1)).f2) x16_2)).toNat*3)).block,(ad379.add (((rd ((rd_T43 l0_2 (rd x13_1 x14_1)).f2) x16_2)).toNat*3)).off+2,none⟩=some (.slice A390_2 ((rd_T43 l0_2 (rd ((rd_T43 l0_2 (rd x13_1 x14_1)).f2) x16_2)).f2).length c390_2)∧w'.cell? (ad380.add ((rd ((rd_T43 l0_2 (rd x13_1 x14_1)).f2) x16_2)).toNat)=some (.slice A391_0 (rd_L10 l1 (rd ((rd_T43 l0_2 (rd x13_1 x14_1)).f2) x16_2)).length c391_0)) (ds:=[]) (bz 13 0) (by kernel_rfl) rfl rfl ⟨qj BK375 0,qj BK375 1,qj BK375 2,((qd HB hw390_0 :)),((qd HB hw390_1 :)),((qd HB hw390_2 :)),((qd HB hw391_0 :))⟩ (fun hHeld=>?_);refine with_tabW zmet.tab16 zmet.bits16 (fun HT_ HW_=>?_)
                           generalize w51.drew=w52 at HO_11 HO_13 BK375 HB HR390_1 HR390_2 HR391_0 hx390_0 hx390_1 hx390_2 hx391_0 hHeld ⊢;refine pu 0 83 13 1 ?_;refine pq 2 85 13 5 ?_;refine pq 6 89 13 69 ?_;refine pq 7 90 13 197 ?_;refine pq 8 91 13 453 ?_;refine pq 10 93 13 1477 ?_;refine tq 1 84 13 1479 ?_;refine pq 3 86 13 1487 ?_;refine pq 4 87 13 1503 ?_;refine tq 5 88 13 1535 ?_;refine tk 9 92 13 11 ?_;refine one_ (i:=11) (N:=some 94) (bz 13 12) rfl rfl (one_of HT_.out (by kernel_rfl)) (by decide) (fun K hK=>?_)
                           refine goes_ Try.func45 (by kernel_rfl) rfl #[.slice A390_1 ((rd_T43 l0_2 (rd ((rd_T43 l0_2 (rd x13_1 x14_1)).f2) x16_2)).f1).length c390_1,.slice A391_0 (rd_L10 l1 (rd ((rd_T43 l0_2 (rd x13_1 x14_1)).f2) x16_2)).length c391_0,.int .i64 0,.int .i64 a4] (by rfl) rfl rfl qc ?_
                           with_reducible refine (zalong.calls kj28 _ _ ((rd_T43 l0_2 (rd ((rd_T43 l0_2 (rd x13_1 x14_1)).f2) x16_2)).f1) _ _ (rd_L10 l1 (rd ((rd_T43 l0_2 (rd x13_1 x14_1)).f2) x16_2)) 0 a4 t392 _ ?side1 ?side2 ?side3 ?side4 A42.out).mono ?_
                           (case side1=>exact qh (Kd.C_below HR390_1.out HB.out))
                           (case side2=>exact HC390_1.out)
                           (case side3=>exact qh (Kd.C_below HR391_0.out HB.out))
                           (case side4=>exact HC391_0.out)
                           rintro e w53 ⟨rfl,hb⟩;refine ⟨_,rfl,?_⟩;have n0_:=ak (Kd.R_below (rk HO_11) hb);have n1_:=ak (Kd.R_below (rk HO_13) hb);have n2_:=ak (blk_below (g:=gb375) (o:= .cells #[.int .i64 a0_0,.int .i64 a0_1,.slice (some ad379) l0_2.length c0_2] 24 (0,0)) (bk BK375) hb);have n3_:=ak (below_step (qm GE375) hb);clear HO_11;clear HO_13;clear BK375;clear HB;have HO_11:=n0_;have HO_13:=n1_;have BK375:=n2_;have HB:=n3_;clear n0_ n1_ n2_ n3_
                           (try clear hb)
                           (try clear hb2)
                           (try clear hk)
                           (try clear hi)
                           refine hK.out _ _ ⟨qj BK375 0,qj BK375 1,qj BK375 2,((qd HB hw390_0 :)),((qd HB hw390_1 :)),((qd HB hw390_2 :)),((qd HB hw391_0 :))⟩ (fun hHeld=>?_);clear hK K;refine norm_ (a':=?_) ?_ ?_;rotate_left
                           ·show Act.put _ (some 94) _=_
                            simp only [Act.put,sA,sB,sC,i64_w,i32_w];rfl
                           refine pu 12 12 13 13 ?_;refine done_ (done_of HT_.out (by kernel_rfl)) ?_
                           try go_wp2_with (first |((with_reducible refine gate_builtin (b:= .append) (xs:= #[.tmp 99,.tmp 101]) rfl ?_);(try (refine gate_guard (by rfl) ?_;dsimp only));at_builtin;refine Kd.R_append (Kd.int .i64) (w0:=w) w.heap.size rfl (.tmp 99) (.tmp 101) 25 3 (.int .i64 0) 8 rfl Try.underlying25 info3 rfl (by decide) (by omega) u13 x13_2 (rd ((rd_T43 l0_2 (rd x13_1 x14_1)).f2) x16_2) [.int .i64 (rd ((rd_T43 l0_2 (rd x13_1 x14_1)).f2) x16_2)] (fun _=>True) (fun _=>False) rfl rfl ?aP (fun _ hk=>hk.elim) ?aF ?aO ?aB ?aS ?aL ?_;(case aP=>exact rfl);(case aB=>exact (qm GE375));(case aF=>exact (fun _ _=>trivial));(case aO=>exact (rk HO_13));(case aS=>exact (below_size (qm GE375)));(case aL=>have:=LMc49.out;omega);intro v394 w54 ho hb hg hat;rw [←Ny393.out] at ho;have n0_:=ak (Kd.R_over' (rk HO_11) (Kd.R_typed (rk HO_13)) (by decide) hg);have n1_:=ak (blk_grown (g:=gb375) (o:= .cells #[.int .i64 a0_0,.int .i64 a0_1,.slice (some ad379) l0_2.length c0_2] 24 (0,0)) (bk BK375) hg (Kd.R_ne HO_13.out BK375.out (by decide)));have n2_:=ak (hb);have n3_:=ak (ho);clear HO_11;clear BK375;clear HB;clear HO_13;have HO_11:=n0_;have BK375:=n1_;have HB:=n2_;have HO395:=n3_;clear n0_ n1_ n2_ n3_;clear ho hb hg hat))
                           go_roundg kj28
                           case measure=>have:=HK1.out;have:=HK2.out;have:=HJ28.out;omega
                           case rel=>exact ⟨(y389),(y393),(wrap64 (x16_2+1)),qa,H',⟨by have:=HK1.out;have:=HK2.out;have:=HJ28.out;omega⟩,⟨rk HO_11⟩,⟨rk HO395⟩,⟨bk BK375⟩,⟨by repeat (first |(with_reducible first |exact HB.out |apply below_alloc |apply pw_below_drewN |apply below_drew1 |refine below_set ?_ GE375.out) |exact HB.out)⟩⟩
                          ·rw [if_neg c49] at H;exact absurd H (by simp)
                         ·rw [if_neg c48] at H;have c48b0:(t392==0)=false:=beq_eq_false_iff_ne.mpr c48;have c48b1:(t392 != 0)=true:=bne_iff_ne.mpr c48;have H':=ak H;clear H;have p39:0≤((rd ((rd_T43 l0_2 (rd x13_1 x14_1)).f2) x16_2):Int):=dt;have q39:((rd ((rd_T43 l0_2 (rd x13_1 x14_1)).f2) x16_2):Int)<((x11_2.length:Int):Int):=dt;obtain ⟨go39,co39,eo39,gb39,gl39,cl39,HG39⟩:=Kd.R_form HO_11.out (by omega)
                          (first |cases eo39 |(injection eo39 with ea_ en_ ec_;(first |subst ea_ |(injection ea_ with ea_;subst ea_));subst ec_;clear en_))
                          have GB39:=ak gb39;have GG39:=ak HG39;clear gb39 gl39 HG39;obtain ⟨hx39_0,hf39_0⟩:=Kd.R_celln false HO_11.out ((rd ((rd_T43 l0_2 (rd x13_1 x14_1)).f2) x16_2):Int) p39 q39;replace p39:=eq_true p39;replace q39:=eq_true q39;have HP55:=Kd.R_putg HO_11.out ((rd ((rd_T43 l0_2 (rd x13_1 x14_1)).f2) x16_2):Int) true
                          try go_wp2_with (first |((with_reducible refine gate_store (t:=4) (p:=82) rfl ?_);refine store_event (t:=4) (p:=82) (v:=?vo_w56) (w1:=(wc.setCell ⟨go39,((rd ((rd_T43 l0_2 (rd x13_1 x14_1)).f2) x16_2):Int).toNat,none⟩ (.bool true))) ?hg ?ho ?hn ?hr ?_;(case ho=>rfl);(case hg=>rfl);(case hn=>rfl);(case hr=>first |(go_simp;done) |(go_simp;rfl));intro w56 hw;have hg:wc.grownBy w56 (some go39):=(by rw [hw];exact HP55.2);have hp_:Kd.R Kd.bool 4 w56 w.heap.size (fun _=>True) (.slice (some ⟨go39,0,none⟩) x11_2.length co39) y389:=(by rw [hw,Ny389.out];exact HP55.1);clear HP55;have n0_:=ak (hp_);have n1_:=ak (Kd.R_over' (v:=(.slice (some ⟨go39,0,none⟩) x11_2.length co39)) (rk HO_13) (Kd.R_typed HO_11.out) (by decide) hg);have n2_:=ak (blk_grown (g:=gb375) (o:= .cells #[.int .i64 a0_0,.int .i64 a0_1,.slice (some ad379) l0_2.length c0_2] 24 (0,0)) (bk BK375) hg (Kd.R_ne HO_11.out BK375.out (by decide)));have n3_:=ak ((by rw [hw];exact below_set (HB.out) GB39.out:Below w.heap.size w w56));clear HO_11;clear HO_13;clear BK375;clear HB;have HO_11:=n0_;have HO_13:=n1_;have BK375:=n2_;have HB:=n3_;clear n0_ n1_ n2_ n3_;clear hg hw hp_))
                          have n0_:=ak (Kd.R_drew HO_11.out);have n1_:=ak (Kd.R_drew HO_13.out);have n2_:=ak (blk_drew BK375.out);have n3_:=ak (below_drew1 HB.out);clear HO_11;clear HO_13;clear BK375;clear HB;have HO_11:=n0_;have HO_13:=n1_;have BK375:=n2_;have HB:=n3_;clear n0_ n1_ n2_ n3_;have p390:0≤((rd ((rd_T43 l0_2 (rd x13_1 x14_1)).f2) x16_2):Int):=dt;have q390:(rd ((rd_T43 l0_2 (rd x13_1 x14_1)).f2) x16_2)<(l0_2.length:Int):=dt
                          obtain ⟨ad390,A390_1,c390_1,A390_2,c390_2,e390,hx390_0,hx390_1,hx390_2,hl390_1,hi390_1,hl390_2,hi390_2⟩:=at_T43 HR0_2.out (rd ((rd_T43 l0_2 (rd x13_1 x14_1)).f2) x16_2) p390 q390;have hw390_2:=hx390_2;have hw390_1:=hx390_1;have hw390_0:=hx390_0;obtain rfl:ad379=ad390:=(by injection e390)
                          replace hx390_0:=(qd HB hx390_0 :)
                          replace hx390_1:=(qd HB hx390_1 :)
                          replace hx390_2:=(qd HB hx390_2 :)
                          have HR390_1:=ak hi390_1;have HC390_1:=ak hl390_1;clear hi390_1 hl390_1;have HR390_2:=ak hi390_2;have HC390_2:=ak hl390_2;clear hi390_2 hl390_2;replace p390:=eq_true p390;replace q390:=eq_true q390;have p391:0≤((rd ((rd_T43 l0_2 (rd x13_1 x14_1)).f2) x16_2):Int):=dt;have q391:(rd ((rd_T43 l0_2 (rd x13_1 x14_1)).f2) x16_2)<(l1.length:Int):=dt;obtain ⟨ad391,A391_0,c391_0,e391,hx391_0,hl391_0,hi391_0⟩:=at_L10 HR1.out (rd ((rd_T43 l0_2 (rd x13_1 x14_1)).f2) x16_2) p391 q391;have hw391_0:=hx391_0
                          obtain rfl:ad380=ad391:=(by injection e391)
                          replace hx391_0:=(qd HB hx391_0 :)
                          have HR391_0:=ak hi391_0;have HC391_0:=ak hl391_0;clear hi391_0 hl391_0;replace p391:=eq_true p391;replace q391:=eq_true q391
                          refine start_ (n:=13) (S:=fun w'=>w'.cell? ⟨gb375,0,none⟩=some (.int .i64 a0_0)∧w'.cell? ⟨gb375,1,none⟩=some (.int .i64 a0_1)∧w'.cell? ⟨gb375,2,none⟩=some (.slice (some ad379) l0_2.length c0_2)∧w'.cell? (ad379.add (((rd ((rd_T43 l0_2 (rd x13_1 x14_1)).f2) x16_2)).toNat*3))=some (.int .i64 ((rd_T43 l0_2 (rd ((rd_T43 l0_2 (rd x13_1 x14_1)).f2) x16_2)).f0))∧w'.cell? ⟨(ad379.add (((rd ((rd_T43 l0_2 (rd x13_1 x14_1)).f2) x16_2)).toNat*3)).block,(ad379.add (((rd ((rd_T43 l0_2 (rd x13_1 x14_1)).f2) x16_2)).toNat*3)).off+1,none⟩=some (.slice A390_1 ((rd_T43 l0_2 (rd ((rd_T43 l0_2 (rd x13_1 x14_1)).f2) x16_2)).f1).length c390_1)∧w'.cell? ⟨(ad379.add (((rd ((rd_T43 l0_2 (rd x13_1 x14_1)).f2) x16_2)).toNat*3)).block,(ad379.add (((rd ((rd_T43 l0_2 (rd x13_1 x14_1)).f2) x16_2)).toNat*3)).off+2,none⟩=some (.slice A390_2 ((rd_T43 l0_2 (rd ((rd_T43 l0_2 (rd x13_1 x14_1)).f2) x16_2)).f2).length c390_2)∧w'.cell? (ad380.add ((rd ((rd_T43 l0_2 (rd x13_1 x14_1)).f2) x16_2)).toNat)=some (.slice A391_0 (rd_L10 l1 (rd ((rd_T43 l0_2 (rd x13_1 x14_1)).f2) x16_2)).length c391_0)) (ds:=[]) (bz 13 0) (by kernel_rfl) rfl rfl ⟨qj BK375 0,qj BK375 1,qj BK375 2,((qd HB hw390_0 :)),((qd HB hw390_1 :)),((qd HB hw390_2 :)),((qd HB hw391_0 :))⟩ (fun hHeld=>?_);refine with_tabW zmet.tab16 zmet.bits16 (fun HT_ HW_=>?_)
                          generalize w56.drew=w57 at HO_11 HO_13 BK375 HB HR390_1 HR390_2 HR391_0 hx390_0 hx390_1 hx390_2 hx391_0 hHeld ⊢;refine pu 0 83 13 1 ?_;refine pq 2 85 13 5 ?_;refine pq 6 89 13 69 ?_;refine pq 7 90 13 197 ?_;refine pq 8 91 13 453 ?_;refine pq 10 93 13 1477 ?_;refine tq 1 84 13 1479 ?_;refine pq 3 86 13 1487 ?_;refine pq 4 87 13 1503 ?_;refine tq 5 88 13 1535 ?_;refine tk 9 92 13 11 ?_;refine one_ (i:=11) (N:=some 94) (bz 13 12) rfl rfl (one_of HT_.out (by kernel_rfl)) (by decide) (fun K hK=>?_)
                          refine goes_ Try.func45 (by kernel_rfl) rfl #[.slice A390_1 ((rd_T43 l0_2 (rd ((rd_T43 l0_2 (rd x13_1 x14_1)).f2) x16_2)).f1).length c390_1,.slice A391_0 (rd_L10 l1 (rd ((rd_T43 l0_2 (rd x13_1 x14_1)).f2) x16_2)).length c391_0,.int .i64 0,.int .i64 a4] (by rfl) rfl rfl qc ?_
                          with_reducible refine (zalong.calls kj28 _ _ ((rd_T43 l0_2 (rd ((rd_T43 l0_2 (rd x13_1 x14_1)).f2) x16_2)).f1) _ _ (rd_L10 l1 (rd ((rd_T43 l0_2 (rd x13_1 x14_1)).f2) x16_2)) 0 a4 t392 _ ?side1 ?side2 ?side3 ?side4 A42.out).mono ?_
                          (case side1=>exact qh (Kd.C_below HR390_1.out HB.out))
                          (case side2=>exact HC390_1.out)
                          (case side3=>exact qh (Kd.C_below HR391_0.out HB.out))
                          (case side4=>exact HC391_0.out)
                          rintro e w58 ⟨rfl,hb⟩;refine ⟨_,rfl,?_⟩;have n0_:=ak (Kd.R_below (rk HO_11) hb);have n1_:=ak (Kd.R_below (rk HO_13) hb);have n2_:=ak (blk_below (g:=gb375) (o:= .cells #[.int .i64 a0_0,.int .i64 a0_1,.slice (some ad379) l0_2.length c0_2] 24 (0,0)) (bk BK375) hb);have n3_:=ak (below_step (qm GE375) hb);clear HO_11;clear HO_13;clear BK375;clear HB;have HO_11:=n0_;have HO_13:=n1_;have BK375:=n2_;have HB:=n3_;clear n0_ n1_ n2_ n3_
                          (try clear hb)
                          (try clear hb2)
                          (try clear hk)
                          (try clear hi)
                          refine hK.out _ _ ⟨qj BK375 0,qj BK375 1,qj BK375 2,((qd HB hw390_0 :)),((qd HB hw390_1 :)),((qd HB hw390_2 :)),((qd HB hw391_0 :))⟩ (fun hHeld=>?_);clear hK K;refine norm_ (a':=?_) ?_ ?_;rotate_left
                          ·show Act.put _ (some 94) _=_
                           simp only [Act.put,sA,sB,sC,i64_w,i32_w];rfl
                          refine pu 12 12 13 13 ?_;refine done_ (done_of HT_.out (by kernel_rfl)) ?_
                          try go_wp2
                          go_roundg kj28
                          case measure=>have:=HK1.out;have:=HK2.out;have:=HJ28.out;omega
                          case rel=>exact ⟨(y389),(x13_2),(wrap64 (x16_2+1)),qa,H',⟨by have:=HK1.out;have:=HK2.out;have:=HJ28.out;omega⟩,⟨rk HO_11⟩,⟨rk HO_13⟩,⟨bk BK375⟩,⟨by repeat (first |(with_reducible first |exact HB.out |apply below_alloc |apply pw_below_drewN |apply below_drew1 |refine below_set ?_ GE375.out) |exact HB.out)⟩⟩
                       ·rw [if_neg c41] at H;exact absurd H (by simp)
                      ·rw [if_neg c40] at H;exact absurd H (by simp)
                     ·rw [if_neg c38] at H;exact absurd H (by simp)
                    ·rw [if_neg c37] at H;exact absurd H (by simp)
                ·rw [if_neg c28] at H;exact absurd H (by simp)
               ·rw [if_neg c27] at H;have c27b0:decide (x16_2<(((rd_T43 l0_2 (rd x13_1 x14_1)).f2).length:Int))=false:=decide_eq_false c27;clear c27;have H':=ak H;clear H
                go_wp2
                go_roundg k2
                case measure=>have:=HK1.out;have:=HK2.out;omega
                case rel=>exact ⟨(x11_2),(x13_2),(wrap64 (x14_1+1)),qa,H',⟨by have:=HK1.out;have:=HK2.out;omega⟩,⟨rk HO_11⟩,⟨rk HO_13⟩,⟨bk BK375⟩,⟨by repeat (first |(with_reducible first |exact HB.out |apply below_alloc |apply pw_below_drewN |apply below_drew1 |refine below_set ?_ GE375.out) |exact HB.out)⟩⟩
            ·rw [if_neg c24] at H;exact absurd H (by simp)
           ·rw [if_neg c23] at H;exact absurd H (by simp)
          ·rw [if_neg c22] at H;exact absurd H (by simp)
         ·rw [if_neg c21] at H;have c21b0:decide (x14_1<(x13_1.length:Int))=false:=decide_eq_false c21;clear c21;obtain rfl:=Option.some.inj H;obtain ⟨Ao59,co59,eo59⟩:=Kd.R_slice HO_13.out;subst eo59
          go_wp2
          go_ret
          exact ⟨by first |rfl |(simp [errW_none,errW_some]<;>rfl) |(simp [*,errW_none,errW_some]<;>rfl),by repeat (first |(with_reducible first |exact HB.out |apply below_alloc |apply pw_below_drewN |apply below_drew1 |refine below_set ?_ GE375.out) |exact HB.out)⟩
      ·rw [if_neg c12] at H;have c12b0:(t381==0)=false:=beq_eq_false_iff_ne.mpr c12;have c12b1:(t381 != 0)=true:=bne_iff_ne.mpr c12;obtain rfl:=Option.some.inj H
       go_enter Try.func25,Try.ntmps25
       try go_wp2_with (first |((with_reducible refine gate_dst (N:=5) rfl ?_);(try (refine gate_guard (by rfl) ?_;dsimp only));refine box_event ?hg (N:=5) ?hd (cs:= #[.int .i64 a0_0,.int .i64 a0_1,.slice A0_2 l0_2.length c0_2]) (t:=24) ?hr ?_;(case hd=>rfl);(case hg=>rfl);(case hr=>first |(go_simp;done) |(go_simp;rfl));intro gb375 hg w60 hbox hb;have n0_:=ak (below_step qe hb);have n1_:=ak (hbox);have n2_:=ak ((by rw [hg];exact (below_size qe):w.heap.size≤gb375));have n3_:=ak ((by rw [hg];exact (below_size qe):w.heap.size≤gb375));clear HB;have HB:=n0_;have BK375:=n1_;have GW375:=n2_;have GE375:=n3_;clear n0_ n1_ n2_ n3_;clear hb hbox hg;have hcz61_0:w60.cell? ⟨gb375,0,none⟩=some (.int .i64 a0_0):=qj BK375 0;have hcz61_1:w60.cell? ⟨gb375,1,none⟩=some (.int .i64 a0_1):=qj BK375 1;have hcz61_2:w60.cell? ⟨gb375,2,none⟩=some (.slice A0_2 l0_2.length c0_2):=qj BK375 2;have hfz61_0:=ql BK375 0;have hfz61_1:=ql BK375 1;have hfz61_2:=ql BK375 2) |((with_reducible refine gate_dst (N:=21) rfl ?_);(try (refine gate_guard (by rfl) ?_;dsimp only));refine Kd.R_make Kd.bool _ 4 rfl (N:=21) rfl 53 _ _ rfl (l0_2.length:Int) rfl rfl Try.underlying53 (.bool false) 1 info4 rfl (by decide) (by omega) false (ok:=fun _=>True) (okp:=fun _=>True) rfl (fun _ hk=>hk) trivial (dt) (Nat.le_trans (Nat.mul_le_mul_right _ (dt:(l0_2.length:Int).toNat≤281474976710656)) (by omega)) (Below.refl _ _) (Nat.le_refl _) ?_;intro v377 w62 ho63 hb hg_ hnew_;clear hg_ hnew_;(first |rw [←Ny376.out] at ho63 |(simp only [Int.reduceToNat] at ho63;rw [←Ny376.out] at ho63));have n0_:=ak (Kd.R_lower ho63 (below_size (qm GE375)));have n1_:=ak (blk_below (g:=gb375) (o:= .cells #[.int .i64 a0_0,.int .i64 a0_1,.slice A0_2 l0_2.length c0_2] 24 (0,0)) (bk BK375) hb);have n2_:=ak (below_step (qm GE375) hb);clear BK375;clear HB;have HO378:=n0_;have BK375:=n1_;have HB:=n2_;clear n0_ n1_ n2_;clear hb ho63))
       have n0_:=ak (Kd.R_drew HO378.out);have n1_:=ak (blk_drew BK375.out);have n2_:=ak (below_drew1 HB.out);clear HO378;clear BK375;clear HB;have HO378:=n0_;have BK375:=n1_;have HB:=n2_;clear n0_ n1_ n2_;have p379:0≤(a2:Int):=dt;have q379:a2<(l0_2.length:Int):=dt;obtain ⟨ad379,A379_1,c379_1,A379_2,c379_2,e379,hx379_0,hx379_1,hx379_2,hl379_1,hi379_1,hl379_2,hi379_2⟩:=at_T43 HR0_2.out a2 p379 q379;have hw379_2:=hx379_2;have hw379_1:=hx379_1;have hw379_0:=hx379_0;cases e379;replace hx379_0:=(qd HB hx379_0 :)
       replace hx379_1:=(qd HB hx379_1 :)
       replace hx379_2:=(qd HB hx379_2 :)
       have HR379_1:=ak hi379_1;have HC379_1:=ak hl379_1;clear hi379_1 hl379_1;have HR379_2:=ak hi379_2;have HC379_2:=ak hl379_2;clear hi379_2 hl379_2;replace p379:=eq_true p379;replace q379:=eq_true q379;have p380:0≤(a2:Int):=dt;have q380:a2<(l1.length:Int):=dt;obtain ⟨ad380,A380_0,c380_0,e380,hx380_0,hl380_0,hi380_0⟩:=at_L10 HR1.out a2 p380 q380;have hw380_0:=hx380_0;cases e380;replace hx380_0:=(qd HB hx380_0 :)
       have HR380_0:=ak hi380_0;have HC380_0:=ak hl380_0;clear hi380_0 hl380_0;replace p380:=eq_true p380;replace q380:=eq_true q380
       refine start_ (n:=14) (S:=fun w'=>w'.cell? ⟨gb375,0,none⟩=some (.int .i64 a0_0)∧w'.cell? ⟨gb375,1,none⟩=some (.int .i64 a0_1)∧w'.cell? ⟨gb375,2,none⟩=some (.slice (some ad379) l0_2.length c0_2)∧w'.cell? (ad379.add ((a2).toNat*3))=some (.int .i64 ((rd_T43 l0_2 a2).f0))∧w'.cell? ⟨(ad379.add ((a2).toNat*3)).block,(ad379.add ((a2).toNat*3)).off+1,none⟩=some (.slice A379_1 ((rd_T43 l0_2 a2).f1).length c379_1)∧w'.cell? ⟨(ad379.add ((a2).toNat*3)).block,(ad379.add ((a2).toNat*3)).off+2,none⟩=some (.slice A379_2 ((rd_T43 l0_2 a2).f2).length c379_2)∧w'.cell? (ad380.add (a2).toNat)=some (.slice A380_0 (rd_L10 l1 a2).length c380_0)) (ds:=[]) (bz 14 0) (by kernel_rfl) rfl rfl ⟨qj BK375 0,qj BK375 1,qj BK375 2,((qd HB hw379_0 :)),((qd HB hw379_1 :)),((qd HB hw379_2 :)),((qd HB hw380_0 :))⟩ (fun hHeld=>?_);refine with_tabW zmet.tab2 zmet.bits2 (fun HT_ HW_=>?_)
       generalize w62.drew=w64 at HO378 BK375 HB HR379_1 HR379_2 HR380_0 hx379_0 hx379_1 hx379_2 hx380_0 hHeld ⊢;refine pu 0 22 14 1 ?_;refine pq 2 24 14 5 ?_;refine pq 6 28 14 69 ?_;refine pq 7 29 14 197 ?_;refine pq 8 30 14 453 ?_;refine pq 10 32 14 1477 ?_;refine pq 11 33 14 3525 ?_;refine tq 1 23 14 3527 ?_;refine pq 3 25 14 3535 ?_;refine pq 4 26 14 3551 ?_;refine tq 5 27 14 3583 ?_;refine tk 9 31 14 12 ?_;refine one_ (i:=12) (N:=some 34) (bz 14 13) rfl rfl (one_of HT_.out (by kernel_rfl)) (by decide) (fun K hK=>?_)
       refine goes_ Try.func45 (by kernel_rfl) rfl #[.slice A379_1 ((rd_T43 l0_2 a2).f1).length c379_1,.slice A380_0 (rd_L10 l1 a2).length c380_0,.int .i64 a3,.int .i64 a4] (by rfl) rfl rfl qc ?_
       with_reducible refine (zalong.calls k _ _ ((rd_T43 l0_2 a2).f1) _ _ (rd_L10 l1 a2) a3 a4 t381 _ ?side1 ?side2 ?side3 ?side4 A11.out).mono ?_
       (case side1=>exact qh (Kd.C_below HR379_1.out HB.out))
       (case side2=>exact HC379_1.out)
       (case side3=>exact qh (Kd.C_below HR380_0.out HB.out))
       (case side4=>exact HC380_0.out)
       rintro e w65 ⟨rfl,hb⟩;refine ⟨_,rfl,?_⟩;have n0_:=ak (Kd.R_below (rk HO378) hb);have n1_:=ak (blk_below (g:=gb375) (o:= .cells #[.int .i64 a0_0,.int .i64 a0_1,.slice (some ad379) l0_2.length c0_2] 24 (0,0)) (bk BK375) hb);have n2_:=ak (below_step (qm GE375) hb);clear HO378;clear BK375;clear HB;have HO378:=n0_;have BK375:=n1_;have HB:=n2_;clear n0_ n1_ n2_
       (try clear hb)
       (try clear hb2)
       (try clear hk)
       (try clear hi)
       refine hK.out _ _ ⟨qj BK375 0,qj BK375 1,qj BK375 2,((qd HB hw379_0 :)),((qd HB hw379_1 :)),((qd HB hw379_2 :)),((qd HB hw380_0 :))⟩ (fun hHeld=>?_);clear hK K;refine norm_ (a':=?_) ?_ ?_;rotate_left
       ·show Act.put _ (some 34) _=_
        simp only [Act.put,sA,sB,sC,i64_w,i32_w];rfl
       refine pu 13 12 14 14 ?_;refine done_ (done_of HT_.out (by kernel_rfl)) ?_
       try go_wp2
       go_ret
       exact ⟨by first |rfl |(simp [errW_none,errW_some]<;>rfl) |(simp [*,errW_none,errW_some]<;>rfl),by repeat (first |(with_reducible first |exact HB.out |apply below_alloc |apply pw_below_drewN |apply below_drew1 |refine below_set ?_ GE375.out) |exact HB.out)⟩
     ·rw [if_neg c10] at H;exact absurd H (by simp)
    ·rw [if_neg c9] at H;exact absurd H (by simp)
   ·rw [if_neg c8] at H;exact absurd H (by simp)
  ·rw [if_neg c7] at H;exact absurd H (by simp)
 ·rw [if_neg c6] at H;exact absurd H (by simp)
end Go.Proofs.Ytklknkfoafdgpaa.PLiveKnown
