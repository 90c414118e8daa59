import Derived.Test.YtklknkfoafdgpaaPLiveKnownx1
namespace Go.Proofs.Ytklknkfoafdgpaa.PLiveKnown
set_option maxHeartbeats 8000000
set_option maxRecDepth 100000
open RowKit YtklknkfoafdgpaaW.PrintWords YtklknkfoafdgpaaW.PrintLast YtklknkfoafdgpaaW.PrintMore
attribute [local go_sem] max2_int min2_int max_two min_two max_three min_three max_four min_four
set_option linter.unusedVariables false
set_option linter.unusedSimpArgs false
def zreg.f (a0:Int):Option (Int×Int):=some (0,a0)
theorem zreg.calls (a0:Int) (r1:Int) (r2:Int) (w:World) (h:zreg.f a0=some (r1,r2)) :
  Calls Try.prog 44 #[.int .i64 a0] w fun e w'=>e= .returned (.agg #[.int .i64 r1,.int .i64 r2])∧Below w.heap.size w w':=by
 have hu82:=Try.underlying82;have HB:=ak (Below.refl w.heap.size w);have H:(some (0,a0))=some (r1,r2):=h;clear h;simp only [Option.some.injEq,Prod.mk.injEq] at H;obtain ⟨rfl,rfl⟩:=H
 go_enter Try.func44,Try.ntmps44
 go_wp2_with (first |((with_reducible refine gate_dst (N:=2) rfl ?_);refine box_event ?hg (N:=2) ?hd (cs:= #[.int .i64 0,.int .i64 0]) (t:=82) ?hr ?_;(case hd=>rfl);(case hg=>rfl);(case hr=>first |(go_simp;done) |(go_simp;rfl));intro gb133 hg w2 hbox hb;have n0_:=ak (below_step qe hb);have n1_:=ak (hbox);have n2_:=ak ((by rw [hg];exact (below_size qe):w.heap.size≤gb133));have n3_:=ak ((by rw [hg];exact (below_size qe):w.heap.size≤gb133));clear HB;have HB:=n0_;have BK133:=n1_;have GW133:=n2_;have GE133:=n3_;clear n0_ n1_ n2_ n3_;clear hb hbox hg;have hcz3_0:w2.cell? ⟨gb133,0,none⟩=some (.int .i64 0):=qj BK133 0;have hcz3_1:w2.cell? ⟨gb133,1,none⟩=some (.int .i64 0):=qj BK133 1;have hfz3_0:=ql BK133 0;have hfz3_1:=ql BK133 1))
 refine bodyPost_ret (results_cell_row rfl _ _ gb133 82 #[.int .i64 0,.int .i64 a0] (0,0) _ rfl (by (with_reducible repeat (first |refine blk_drewN ?_ _ |refine blk_drew ?_ |refine blk_alloc ?_ _));refine blk_put (cs:= #[.int .i64 0,.int .i64 0]) ?_ 1 _ rfl;(with_reducible repeat (first |refine blk_drewN ?_ _ |refine blk_drew ?_ |refine blk_alloc ?_ _));refine blk_put (cs:= #[.int .i64 0,.int .i64 0]) ?_ 0 _ rfl;(with_reducible repeat (first |refine blk_drewN ?_ _ |refine blk_drew ?_ |refine blk_alloc ?_ _));exact BK133.out) Try.underlying82 rfl (by kernel_rfl)) rfl ?_
 exact ⟨by first |rfl |(simp [errW_none,errW_some]<;>rfl) |(simp [*,errW_none,errW_some]<;>rfl),by repeat (first |(with_reducible first |exact HB.out |apply below_alloc |apply pw_below_drewN |apply below_drew1 |refine below_set ?_ GE133.out) |exact HB.out)⟩
def zmark.l0:Nat→List Bool→List (S82)→Int→Option (List Bool)
 |0,_,_,_=>none
 |k+1,x0,x1,x4=>if x4<(x1.length:Int) then (if 0≤x4 then (if ((rd_T82 x1 x4).f0)=0 then (if ((rd_T82 x1 x4).f1)≥0 then (if ((rd_T82 x1 x4).f1)<(x0.length:Int) then (if 0≤((rd_T82 x1 x4).f1) then (zmark.l0 k (x0.set (((rd_T82 x1 x4).f1):Int).toNat true) x1 (wrap64 (x4+1))) else (none)) else (zmark.l0 k x0 x1 (wrap64 (x4+1)))) else (zmark.l0 k x0 x1 (wrap64 (x4+1)))) else (zmark.l0 k x0 x1 (wrap64 (x4+1)))) else (none)) else (some x0)
def zmark.f (k:Nat) (l0:List Bool) (l1:List (S82)):Option (List Bool):=zmark.l0 k l0 l1 0
theorem zmark.calls (k:Nat) (P0_:Nat→Prop) (u9000_:Value) (l0:List Bool) (A1:Option Addr) (c1:Nat) (l1:List (S82)) (r:List Bool) (w0 w:World) (hB:Below w0.heap.size w0 w) (ho0:Kd.R Kd.bool 4 w w0.heap.size P0_ u9000_ l0) (hr1:∀ W_,Kept w W_ (fun k_=>P0_ k_)→Kd.C k82 W_ A1 l1.length l1) (hc1:l1.length≤c1) (h:zmark.f k l0 l1=some r) :
  Calls Try.prog 64 #[u9000_,.slice A1 l1.length c1] w fun e w'=>e= .returned (.tuple #[])∧Kd.R Kd.bool 4 w' w0.heap.size (fun k_=>(P0_ k_∨w.heap.size≤k_)) u9000_ r∧Below w0.heap.size w0 w'∧Kept w w' (fun k_=>P0_ k_):=by
 have HO0:=ak (show Kd.R Kd.bool 4 w w0.heap.size (fun k_=>(P0_ k_∨w.heap.size≤k_)) u9000_ l0 from Kd.R_mono ho0 (fun k_ hk=>(.inl hk)));have HR1:=ak hr1;have HC1:=ak hc1;clear hr1 hc1;have HK:=ak (Kept.refl w (fun k_=>P0_ k_));have HW0:=ak hB.size;have HB:=ak hB;clear hB;have H:(zmark.l0 k l0 l1 0)=some r:=h;clear h;have H':=ak H;clear H
 go_enter Try.func64,Try.ntmps64
 go_wp2
 go_loopg [4] k (fun kq v4 w'=>∃ (x0_1:List Bool) (x4_1:Int),v4= .int .i64 x4_1∧Aside0 (zmark.l0 kq x0_1 l1 x4_1=some r)∧Aside0 (kq≤k)∧Aside0 (Kd.R Kd.bool 4 w' w0.heap.size (fun k_=>(P0_ k_∨w.heap.size≤k_)) u9000_ x0_1)∧Aside0 (Kept w w' (fun k_=>P0_ k_))∧Aside0 (Below w0.heap.size w0 w'))
 case atStart=>exact ⟨(l0),(0),qa,H',⟨Nat.le_refl _⟩,⟨rk HO0⟩,⟨by repeat (first |(with_reducible first |exact HK.out |apply Kept.alloc |apply Kept.drewN |apply Kept.drew) |exact HK.out)⟩,⟨by repeat (first |(with_reducible first |exact HB.out |apply below_alloc |apply pw_below_drewN |apply below_drew1) |exact HB.out)⟩⟩
 case round =>
  clear H'
  try clear c1
  try clear p2
  obtain ⟨x0_1,x4_1,rfl,HA,HK1,HO_0,HK,HB⟩:=hrel;cases gk with
  |zero=>exact absurd HA.out (by simp [zmark.l0])
  |succ k1 =>
   have H:=HA.out;clear HA;simp only [zmark.l0] at H
   by_cases c3:x4_1<(l1.length:Int)
   ·rw [if_pos c3] at H;have c3b0:decide (x4_1<(l1.length:Int))=true:=decide_eq_true c3;clear c3
    by_cases c4:0≤x4_1
    ·rw [if_pos c4] at H;have c4b0:decide (0≤x4_1)=true:=decide_eq_true c4;clear c4
     by_cases c5:((rd_T82 l1 x4_1).f0)=0
     ·rw [if_pos c5] at H;have c5b0:(((rd_T82 l1 x4_1).f0)==0)=true:=beq_iff_eq.mpr c5;have c5b1:(((rd_T82 l1 x4_1).f0) != 0)=false:=bne_eq_false_iff_eq.mpr c5;clear c5
      by_cases c6:((rd_T82 l1 x4_1).f1)≥0
      ·rw [if_pos c6] at H;have c6b0:decide (0≤((rd_T82 l1 x4_1).f1))=true:=decide_eq_true c6;clear c6
       by_cases c7:((rd_T82 l1 x4_1).f1)<(x0_1.length:Int)
       ·rw [if_pos c7] at H;have c7b0:decide (((rd_T82 l1 x4_1).f1)<(x0_1.length:Int))=true:=decide_eq_true c7;clear c7
        by_cases c8:0≤((rd_T82 l1 x4_1).f1)
        ·rw [if_pos c8] at H;have c8b0:decide (0≤((rd_T82 l1 x4_1).f1))=true:=decide_eq_true c8;clear c8;obtain ⟨y150,hy150⟩:∃ y_:List Bool,y_=(x0_1.set (((rd_T82 l1 x4_1).f1):Int).toNat true):=⟨_,rfl⟩
         replace H:(zmark.l0 k1 y150 l1 (wrap64 (x4_1+1)))=some r:=by first |(rw [hy150];with_reducible exact H) |(have H2_:=(Option.bind_some _ _).symm.trans H;rw [hy150];with_reducible exact H2_) |(have H2_:=(Option.bind_some _ _).symm.trans H;with_reducible exact H2_) |with_reducible exact H |(rw [hy150];exact H) |exact H
         have Ny150:=ak hy150;clear hy150;have H':=ak H;clear H;have p146:0≤(x4_1:Int):=dt;have q146:x4_1<(l1.length:Int):=dt;obtain ⟨ad146,e146,hx146_0,hx146_1⟩:=at_T82 (Kd.C_kept_now HR1.out HK.out) x4_1 p146 q146;cases e146;replace p146:=eq_true p146;replace q146:=eq_true q146;have p147:0≤(x4_1:Int):=dt;have q147:x4_1<(l1.length:Int):=dt;obtain ⟨ad147,e147,hx147_0,hx147_1⟩:=at_T82 (Kd.C_kept_now HR1.out HK.out) x4_1 p147 q147;obtain rfl:ad146=ad147:=(by injection e147)
         replace p147:=eq_true p147;replace q147:=eq_true q147;have p148:0≤(x4_1:Int):=dt;have q148:x4_1<(l1.length:Int):=dt;obtain ⟨ad148,e148,hx148_0,hx148_1⟩:=at_T82 (Kd.C_kept_now HR1.out HK.out) x4_1 p148 q148;obtain rfl:ad146=ad148:=(by injection e148)
         replace p148:=eq_true p148;replace q148:=eq_true q148;obtain ⟨Ao10,co10,eo10⟩:=Kd.R_slice HO_0.out;subst eo10;have p149:0≤(x4_1:Int):=dt;have q149:x4_1<(l1.length:Int):=dt;obtain ⟨ad149,e149,hx149_0,hx149_1⟩:=at_T82 (Kd.C_kept_now HR1.out HK.out) x4_1 p149 q149;obtain rfl:ad146=ad149:=(by injection e149)
         replace p149:=eq_true p149;replace q149:=eq_true q149;have p9:0≤(((rd_T82 l1 x4_1).f1):Int):=dt;have q9:(((rd_T82 l1 x4_1).f1):Int)<((x0_1.length:Int):Int):=dt;obtain ⟨go9,co9,eo9,gb9,gl9,cl9,HG9⟩:=Kd.R_form HO_0.out (by omega)
         (first |cases eo9 |(injection eo9 with ea_ en_ ec_;(first |subst ea_ |(injection ea_ with ea_;subst ea_));subst ec_;clear en_))
         have GB9:=ak gb9;have GG9:=ak HG9;clear gb9 gl9 HG9;have HMgo9:=ak (show (P0_ go9∨w.heap.size≤go9) from (HO_0.out.1 _ rfl));obtain ⟨hx9_0,hf9_0⟩:=Kd.R_celln false HO_0.out (((rd_T82 l1 x4_1).f1):Int) p9 q9;replace p9:=eq_true p9;replace q9:=eq_true q9;have HP11:=Kd.R_putg HO_0.out (((rd_T82 l1 x4_1).f1):Int) true
         go_wp2_with (first |((with_reducible refine gate_store (t:=4) (p:=41) rfl ?_);refine store_event (t:=4) (p:=41) (v:=?vo_w12) (w1:=(wr.setCell ⟨go9,(((rd_T82 l1 x4_1).f1):Int).toNat,none⟩ (.bool true))) ?hg ?ho ?hn ?hr ?_;(case ho=>rfl);(case hg=>rfl);(case hn=>rfl);(case hr=>first |(go_simp;done) |(go_simp;rfl));intro w12 hw;have hg:wr.grownBy w12 (some go9):=(by rw [hw];exact HP11.2);have hp_:Kd.R Kd.bool 4 w12 w0.heap.size (fun k_=>(P0_ k_∨w.heap.size≤k_)) (.slice (some ⟨go9,0,none⟩) x0_1.length co10) y150:=(by rw [hw,Ny150.out];exact HP11.1);clear HP11;have n0_:=ak (hp_);have n1_:=ak ((by rw [hw];exact below_set (HB.out) GB9.out:Below w0.heap.size w0 w12));have n2_:=ak (Kept.of_grown (S:=(fun k_=>P0_ k_)) hg (by repeat (first |(with_reducible first |exact HK.out |apply Kept.alloc |apply Kept.drewN |apply Kept.drew) |exact HK.out)) (fun k_ e_=>(HO_0.out.1 k_ e_)));clear HO_0;clear HB;clear HK;have HO_0:=n0_;have HB:=n1_;have HK:=n2_;clear n0_ n1_ n2_;clear hg hw hp_))
         go_roundg k1
         case measure=>have:=HK1.out;omega
         case rel=>exact ⟨(y150),(wrap64 (x4_1+1)),qa,H',⟨by have:=HK1.out;omega⟩,⟨rk HO_0⟩,⟨by repeat (first |(with_reducible first |exact HK.out |apply Kept.alloc |apply Kept.drewN |apply Kept.drew) |exact HK.out)⟩,⟨by repeat (first |(with_reducible first |exact HB.out |apply below_alloc |apply pw_below_drewN |apply below_drew1) |exact HB.out)⟩⟩
        ·rw [if_neg c8] at H;exact absurd H (by simp)
       ·rw [if_neg c7] at H;have c7b0:decide (((rd_T82 l1 x4_1).f1)<(x0_1.length:Int))=false:=decide_eq_false c7;clear c7;have H':=ak H;clear H;have p146:0≤(x4_1:Int):=dt;have q146:x4_1<(l1.length:Int):=dt;obtain ⟨ad146,e146,hx146_0,hx146_1⟩:=at_T82 (Kd.C_kept_now HR1.out HK.out) x4_1 p146 q146;cases e146;replace p146:=eq_true p146;replace q146:=eq_true q146;have p147:0≤(x4_1:Int):=dt;have q147:x4_1<(l1.length:Int):=dt;obtain ⟨ad147,e147,hx147_0,hx147_1⟩:=at_T82 (Kd.C_kept_now HR1.out HK.out) x4_1 p147 q147
        obtain rfl:ad146=ad147:=(by injection e147)
        replace p147:=eq_true p147;replace q147:=eq_true q147;have p148:0≤(x4_1:Int):=dt;have q148:x4_1<(l1.length:Int):=dt;obtain ⟨ad148,e148,hx148_0,hx148_1⟩:=at_T82 (Kd.C_kept_now HR1.out HK.out) x4_1 p148 q148;obtain rfl:ad146=ad148:=(by injection e148)
        replace p148:=eq_true p148;replace q148:=eq_true q148;obtain ⟨Ao13,co13,eo13⟩:=Kd.R_slice HO_0.out;subst eo13
        go_wp2
        go_roundg k1
        case measure=>have:=HK1.out;omega
        case rel=>exact ⟨(x0_1),(wrap64 (x4_1+1)),qa,H',⟨by have:=HK1.out;omega⟩,⟨rk HO_0⟩,⟨by repeat (first |(with_reducible first |exact HK.out |apply Kept.alloc |apply Kept.drewN |apply Kept.drew) |exact HK.out)⟩,⟨by repeat (first |(with_reducible first |exact HB.out |apply below_alloc |apply pw_below_drewN |apply below_drew1) |exact HB.out)⟩⟩
      ·rw [if_neg c6] at H;have c6b0:decide (0≤((rd_T82 l1 x4_1).f1))=false:=decide_eq_false c6;clear c6;have H':=ak H;clear H;have p146:0≤(x4_1:Int):=dt;have q146:x4_1<(l1.length:Int):=dt;obtain ⟨ad146,e146,hx146_0,hx146_1⟩:=at_T82 (Kd.C_kept_now HR1.out HK.out) x4_1 p146 q146;cases e146;replace p146:=eq_true p146;replace q146:=eq_true q146;have p147:0≤(x4_1:Int):=dt;have q147:x4_1<(l1.length:Int):=dt;obtain ⟨ad147,e147,hx147_0,hx147_1⟩:=at_T82 (Kd.C_kept_now HR1.out HK.out) x4_1 p147 q147
       obtain rfl:ad146=ad147:=(by injection e147)
       replace p147:=eq_true p147;replace q147:=eq_true q147
       go_wp2
       go_roundg k1
       case measure=>have:=HK1.out;omega
       case rel=>exact ⟨(x0_1),(wrap64 (x4_1+1)),qa,H',⟨by have:=HK1.out;omega⟩,⟨rk HO_0⟩,⟨by repeat (first |(with_reducible first |exact HK.out |apply Kept.alloc |apply Kept.drewN |apply Kept.drew) |exact HK.out)⟩,⟨by repeat (first |(with_reducible first |exact HB.out |apply below_alloc |apply pw_below_drewN |apply below_drew1) |exact HB.out)⟩⟩
     ·rw [if_neg c5] at H;have c5b0:(((rd_T82 l1 x4_1).f0)==0)=false:=beq_eq_false_iff_ne.mpr c5;have c5b1:(((rd_T82 l1 x4_1).f0) != 0)=true:=bne_iff_ne.mpr c5;have H':=ak H;clear H;have p146:0≤(x4_1:Int):=dt;have q146:x4_1<(l1.length:Int):=dt;obtain ⟨ad146,e146,hx146_0,hx146_1⟩:=at_T82 (Kd.C_kept_now HR1.out HK.out) x4_1 p146 q146;cases e146;replace p146:=eq_true p146;replace q146:=eq_true q146
      go_wp2
      go_roundg k1
      case measure=>have:=HK1.out;omega
      case rel=>exact ⟨(x0_1),(wrap64 (x4_1+1)),qa,H',⟨by have:=HK1.out;omega⟩,⟨rk HO_0⟩,⟨by repeat (first |(with_reducible first |exact HK.out |apply Kept.alloc |apply Kept.drewN |apply Kept.drew) |exact HK.out)⟩,⟨by repeat (first |(with_reducible first |exact HB.out |apply below_alloc |apply pw_below_drewN |apply below_drew1) |exact HB.out)⟩⟩
    ·rw [if_neg c4] at H;exact absurd H (by simp)
   ·rw [if_neg c3] at H;have c3b0:decide (x4_1<(l1.length:Int))=false:=decide_eq_false c3;clear c3;obtain rfl:=Option.some.inj H
    go_wp2
    first |go_end0 |((try simp only [Exit.inBlock,Exit.then]);refine bodyPost_ret (results_none rfl _ _ _) rfl ?_)
    exact ⟨by first |rfl |(simp [errW_none,errW_some]<;>rfl) |(simp [*,errW_none,errW_some]<;>rfl),by (with_reducible repeat (first |apply Kd.R_alloc |apply Kd.R_drewN |apply Kd.R_drew));exact HO_0.out,by repeat (first |(with_reducible first |exact HB.out |apply below_alloc |apply pw_below_drewN |apply below_drew1) |exact HB.out),by repeat (first |(with_reducible first |exact HK.out |apply Kept.alloc |apply Kept.drewN |apply Kept.drew) |exact HK.out)⟩
end Go.Proofs.Ytklknkfoafdgpaa.PLiveKnown
