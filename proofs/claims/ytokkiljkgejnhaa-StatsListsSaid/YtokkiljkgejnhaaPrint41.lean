import Derived.Test.YtokkiljkgejnhaaPrint0
import Derived.Test.YtokkiljkgejnhaaPrint38
namespace Go.Proofs.Ytokkiljkgejnhaa.Print
open Go.RowKit Go.Proofs.YtokkiljkgejnhaaW.PrintWords Go.Proofs.YtokkiljkgejnhaaW.PrintLast Go.Proofs.YtokkiljkgejnhaaW.PrintMore
attribute [local go_sem] max2_int min2_int max_two min_two max_three min_three max_four min_four
set_option linter.unusedVariables false
set_option maxRecDepth 100000
set_option maxHeartbeats 8000000
set_option linter.unusedSimpArgs false

mutual
def Azq.l0:Nat→List Int→List Int→Int→Option (List Int × Int)
 | 0,_,_,_=>none
 | k+1,x0,x1,x7=>if x7 < (x1.length:Int) then(if 0≤x7 then(if 0≤(wrap64 (x7 - 1)) then(if(wrap64 (x7 - 1)) < (x1.length:Int) then(if(rd x1 x7)≤(rd x1 (wrap64 (x7 - 1))) then(some (([]:List Int),9)) else(Azq.l0 k x0 x1 (wrap64 (x7+1)))) else(none)) else(none)) else(none)) else(if 0≤(wrap64 ((x1.length:Int) - 1)) then(if(wrap64 ((x1.length:Int) - 1):Int).toNat≤35184372088832 then(Azq.l1 k x0 x1 (List.replicate (wrap64 ((x1.length:Int) - 1):Int).toNat 0) 0) else(none)) else(none))
def Azq.l1:Nat→List Int→List Int→List Int→Int→Option (List Int × Int)
 | 0,_,_,_,_=>none
 | k+1,x0,x1,x8,x9=>if x9 < (x0.length:Int) then(Azq.l2 k x0 x1 x8 x9 0) else(some (x8,0))
def Azq.l2:Nat→List Int→List Int→List Int→Int→Int→Option (List Int × Int)
 | 0,_,_,_,_,_=>none
 | k+1,x0,x1,x8,x9,x10=>if x10 < (x8.length:Int) then(if 0≤x10 then(if x10 < (x1.length:Int) then(if 0≤x9 then(if x9 < (x0.length:Int) then(if(rd x1 x10)≤(rd x0 x9) then(if 0≤(wrap64 (x10+1)) then(if(wrap64 (x10+1)) < (x1.length:Int) then(if(rd x0 x9) < (rd x1 (wrap64 (x10+1))) then(Azq.l2 k x0 x1 (x8.set (x10:Int).toNat (wrap64 ((rd x8 x10)+1))) x9 (wrap64 (x10+1))) else(Azq.l2 k x0 x1 x8 x9 (wrap64 (x10+1)))) else(none)) else(none)) else(Azq.l2 k x0 x1 x8 x9 (wrap64 (x10+1)))) else(none)) else(none)) else(none)) else(none)) else(Azq.l1 k x0 x1 x8 (wrap64 (x9+1)))
end
def Azq.f (k:Nat) (l0:List Int) (l1:List Int):Option (List Int × Int):=(Azj.f k l0).bind fun t742=>(if t742=0 then(if(l1.length:Int) < 2 then(some (([]:List Int),10)) else(if(l1.length:Int) > 64 then(some (([]:List Int),8)) else(Azq.l0 k l0 l1 1))) else(some (([]:List Int),t742)))
theorem Azq.mono_l:∀ k,(∀ y0 y1 y2,LeO (Azq.l0 k y0 y1 y2) (Azq.l0 (k+1) y0 y1 y2))∧(∀ y0 y1 y2 y3,LeO (Azq.l1 k y0 y1 y2 y3) (Azq.l1 (k+1) y0 y1 y2 y3))∧(∀ y0 y1 y2 y3 y4,LeO (Azq.l2 k y0 y1 y2 y3 y4) (Azq.l2 (k+1) y0 y1 y2 y3 y4))
 | 0=>⟨fun _ _ _ r h=>by simp [Azq.l0] at h,fun _ _ _ _ r h=>by simp [Azq.l1] at h,fun _ _ _ _ _ r h=>by simp [Azq.l2] at h⟩
 | k+1=>by
  obtain⟨ih0,ih1,ih2⟩:=Azq.mono_l k;refine⟨?_,?_,?_⟩
  ·intro y0 y1 y2;unfold Azq.l0;with_reducible repeat' first|exact ih0 _ _ _|exact ih1 _ _ _ _|exact ih2 _ _ _ _ _|exact Azj.mono _ _|exact LeO.refl _|exact LeO.none _|refine LeO.ite ?_ ?_|refine LeO.bind ?_ (fun _=>?_)
  ·intro y0 y1 y2 y3;unfold Azq.l1;with_reducible repeat' first|exact ih0 _ _ _|exact ih1 _ _ _ _|exact ih2 _ _ _ _ _|exact Azj.mono _ _|exact LeO.refl _|exact LeO.none _|refine LeO.ite ?_ ?_|refine LeO.bind ?_ (fun _=>?_)
  ·intro y0 y1 y2 y3 y4;unfold Azq.l2;with_reducible repeat' first|exact ih0 _ _ _|exact ih1 _ _ _ _|exact ih2 _ _ _ _ _|exact Azj.mono _ _|exact LeO.refl _|exact LeO.none _|refine LeO.ite ?_ ?_|refine LeO.bind ?_ (fun _=>?_)
theorem Azq.mono:∀ a0 a1 k,LeO (Azq.f k a0 a1) (Azq.f (k+1) a0 a1):=by
 intro a0 a1 k;obtain⟨ih0,ih1,ih2⟩:=Azq.mono_l k;unfold Azq.f;with_reducible repeat' first|exact ih0 _ _ _|exact ih1 _ _ _ _|exact ih2 _ _ _ _ _|exact Azj.mono _ _|exact LeO.refl _|exact LeO.none _|refine LeO.ite ?_ ?_|refine LeO.bind ?_ (fun _=>?_)
theorem Azq.calls (k:Nat) (A0:Option Addr) (c0:Nat) (l0:List Int) (A1:Option Addr) (c1:Nat) (l1:List Int) (r1:List Int) (r2:Int) (w:World) (hr0:Kd.C (Kd.int .i64) w A0 l0.length l0) (hc0:l0.length≤c0) (hr1:Kd.C (Kd.int .i64) w A1 l1.length l1) (hc1:l1.length≤c1) (h:Azq.f k l0 l1=some (r1,r2)) :
  Calls Try.prog 16 #[.slice A0 l0.length c0,.slice A1 l1.length c1] w fun e w'=>∃ v0_:Value,e=.returned (.tuple #[v0_,.int .i64 r2])∧Kd.R (Kd.int .i64) 3 w' w.heap.size (fun _=>True) v0_ r1∧Below w.heap.size w w':=by
 have HR0:=aM hr0;have HC0:=aM hc0;clear hr0 hc0;have HR1:=aM hr1;have HC1:=aM hc1;clear hr1 hc1;have HB:=aM (Below.refl w.heap.size w);have H:((Azj.f k l0).bind fun t742=>(if t742=0 then(if(l1.length:Int) < 2 then(some (([]:List Int),10)) else(if(l1.length:Int) > 64 then(some (([]:List Int),8)) else(Azq.l0 k l0 l1 1))) else(some (([]:List Int),t742))))=some (r1,r2):=h
 clear h;replace H:=bS H;obtain⟨t742,A30,H⟩:=H;(try dsimp only at H);have A3:=aM A30;clear A30;by_cases c4:t742=0
 ·rw[if_pos c4] at H;have c4b0:(t742 == 0)=true:=beq_iff_eq.mpr c4;have c4b1:(t742 != 0)=false:=bne_eq_false_iff_eq.mpr c4;clear c4;by_cases c5:(l1.length:Int) < 2
  ·rw[if_pos c5] at H;have c5b0:decide ((l1.length:Int) < 2)=true:=dE c5;have c5b1:decide (l1.length < 2)=true:=dE (by omega)
   clear c5;simp only[Option.some.injEq,Prod.mk.injEq] at H;obtain⟨rfl,rfl⟩:=H;go_enter Try.func16,Try.ntmps16
   have fl_:True:=trivial;repeat((first|clear fl_|go_quiet (first|(go_at_call 33;(with_reducible refine(Azj.calls k _ _ l0 t742 _ ?side1 ?side2 A3.out).mono ?_);(case side1=>exact cX HR0.out);(case side2=>exact HC0.out);rintro e w' ⟨rfl,⟨nd,rfl⟩⟩;(try first|exact⟨rfl,_,World.drewN_drewN _ _ _⟩|exact⟨rfl,_,Eq.trans (World.drewN_drewN _ _ _) (congrArg (World.drewN _) (Nat.add_assoc _ _ _))⟩))));go_wp2_with (first|(go_at_call 33;(with_reducible refine(Azj.calls k _ _ l0 t742 _ ?side1 ?side2 A3.out).mono ?_);(case side1=>exact cX HR0.out);(case side2=>exact HC0.out);rintro e w' ⟨rfl,⟨nd,rfl⟩⟩;(try first|exact⟨rfl,_,World.drewN_drewN _ _ _⟩|exact⟨rfl,_,Eq.trans (World.drewN_drewN _ _ _) (congrArg (World.drewN _) (Nat.add_assoc _ _ _))⟩))))
   go_ret2
   exact⟨_,eW,by first|exact Kd.R_nil _ _ _ _ _|exact Kd.N_nil _ _ _ _ _|exact Kd.V_nil _ _ _ _ _|exact Kd.Q_nil _ _ _ _ _|exact Kd.S_nil _ _ _ _ _,pB⟩
  ·rw[if_neg c5] at H;have c5b0:decide ((l1.length:Int) < 2)=false:=decide_eq_false c5;have c5b1:decide (l1.length < 2)=false:=decide_eq_false (by omega)
   clear c5;by_cases c6:(l1.length:Int) > 64
   ·rw[if_pos c6] at H;have c6b0:decide (64 < (l1.length:Int))=true:=dE c6;have c6b1:decide (64 < l1.length)=true:=dE (by omega)
    clear c6;simp only[Option.some.injEq,Prod.mk.injEq] at H;obtain⟨rfl,rfl⟩:=H;go_enter Try.func16,Try.ntmps16
    have fl_:True:=trivial;repeat((first|clear fl_|go_quiet (first|(go_at_call 33;(with_reducible refine(Azj.calls k _ _ l0 t742 _ ?side1 ?side2 A3.out).mono ?_);(case side1=>exact cX HR0.out);(case side2=>exact HC0.out);rintro e w' ⟨rfl,⟨nd,rfl⟩⟩;(try first|exact⟨rfl,_,World.drewN_drewN _ _ _⟩|exact⟨rfl,_,Eq.trans (World.drewN_drewN _ _ _) (congrArg (World.drewN _) (Nat.add_assoc _ _ _))⟩))));go_wp2_with (first|(go_at_call 33;(with_reducible refine(Azj.calls k _ _ l0 t742 _ ?side1 ?side2 A3.out).mono ?_);(case side1=>exact cX HR0.out);(case side2=>exact HC0.out);rintro e w' ⟨rfl,⟨nd,rfl⟩⟩;(try first|exact⟨rfl,_,World.drewN_drewN _ _ _⟩|exact⟨rfl,_,Eq.trans (World.drewN_drewN _ _ _) (congrArg (World.drewN _) (Nat.add_assoc _ _ _))⟩))))
    go_ret2
    exact⟨_,eW,by first|exact Kd.R_nil _ _ _ _ _|exact Kd.N_nil _ _ _ _ _|exact Kd.V_nil _ _ _ _ _|exact Kd.Q_nil _ _ _ _ _|exact Kd.S_nil _ _ _ _ _,pB⟩
   ·rw[if_neg c6] at H;have c6b0:decide (64 < (l1.length:Int))=false:=decide_eq_false c6;have c6b1:decide (64 < l1.length)=false:=decide_eq_false (by omega)
    clear c6;have H':=aM H;clear H;go_enter Try.func16,Try.ntmps16
    have fl_:True:=trivial;repeat((first|clear fl_|go_quiet (first|(go_at_call 33;(with_reducible refine(Azj.calls k _ _ l0 t742 _ ?side1 ?side2 A3.out).mono ?_);(case side1=>exact cX HR0.out);(case side2=>exact HC0.out);rintro e w' ⟨rfl,⟨nd,rfl⟩⟩;(try first|exact⟨rfl,_,World.drewN_drewN _ _ _⟩|exact⟨rfl,_,Eq.trans (World.drewN_drewN _ _ _) (congrArg (World.drewN _) (Nat.add_assoc _ _ _))⟩))));go_wp2_with (first|(go_at_call 33;(with_reducible refine(Azj.calls k _ _ l0 t742 _ ?side1 ?side2 A3.out).mono ?_);(case side1=>exact cX HR0.out);(case side2=>exact HC0.out);rintro e w' ⟨rfl,⟨nd,rfl⟩⟩;(try first|exact⟨rfl,_,World.drewN_drewN _ _ _⟩|exact⟨rfl,_,Eq.trans (World.drewN_drewN _ _ _) (congrArg (World.drewN _) (Nat.add_assoc _ _ _))⟩))))
    try simp only[Act.put,sA,sZ,sC]
    go_loopg [7] k (fun kq v7 w'=>∃ (x7_1:Int),v7=.int .i64 x7_1∧Aside0 (Azq.l0 kq l0 l1 x7_1=some (r1,r2))∧Aside0 (kq≤k)∧Aside0 (Below w.heap.size w w'))
    case atStart=>exact⟨(1),sD,H',⟨Nat.le_refl _⟩,⟨pB⟩⟩
    case round =>
     clear H';try clear c1
     try clear p2
     try clear c4
     try clear c4b0
     try clear c4b1
     try clear c5
     try clear c5b0
     try clear c5b1
     try clear c6
     try clear c6b0
     try clear c6b1
     obtain⟨x7_1,rfl,HA,HK1,HB⟩:=hrel;cases gk with
     | zero=>exact absurd HA.out (by simp [Azq.l0])
     | succ k1 =>
      have H:=HA.out;clear HA;simp only[Azq.l0] at H;by_cases c7:x7_1 < (l1.length:Int)
      ·rw[if_pos c7] at H;have c7b0:decide (x7_1 < (l1.length:Int))=true:=dE c7;clear c7;by_cases c8:0≤x7_1
       ·rw[if_pos c8] at H;have c8b0:decide (0≤x7_1)=true:=dE c8;clear c8;obtain⟨ji9,hji9⟩:∃ j_:Int,(wrap64 (x7_1 - 1))=j_:=⟨_,rfl⟩;replace H:(if 0≤(ji9) then(if(ji9) < (l1.length:Int) then(if(rd l1 x7_1)≤(rd l1 (ji9)) then(some (([]:List Int),9)) else(Azq.l0 k1 l0 l1 (wrap64 (x7_1+1)))) else(none)) else(none))=some (r1,r2):=by first|(rw[hji9] at H;exact H)|(simp only[hji9] at H ⊢;exact H)
        have hji9w:(IntKind.i64.wrap (x7_1 - 1))=ji9:=(i64_w _).trans hji9;by_cases c10:0≤(ji9)
        ·rw[if_pos c10] at H;have c10b0:decide (0≤(ji9))=true:=dE c10;clear c10;by_cases c11:(ji9) < (l1.length:Int)
         ·rw[if_pos c11] at H;have c11b0:decide ((ji9) < (l1.length:Int))=true:=dE c11;clear c11;by_cases c12:(rd l1 x7_1)≤(rd l1 (ji9))
          ·rw[if_pos c12] at H;have c12b0:decide ((rd l1 x7_1)≤(rd l1 (ji9)))=true:=dE c12;clear c12;simp only[Option.some.injEq,Prod.mk.injEq] at H;obtain⟨rfl,rfl⟩:=H;have p743:0≤(x7_1:Int):=oE aS
           have q743:x7_1 < (l1.length:Int):=oE aS
           obtain⟨ad743,e743,hx743_0⟩:=Kd.at_int HR1.out x7_1 p743 q743;cases e743
           replace hx743_0:=(HB.out.cell (World.block_lt_of_cell? w _ hx743_0)).trans hx743_0;replace p743:=eq_true p743;replace q743:=eq_true q743;have p744:0≤((ji9):Int):=oE aS
           have q744:(ji9) < (l1.length:Int):=oE aS
           obtain⟨ad744,e744,hx744_0⟩:=Kd.at_int HR1.out (ji9) p744 q744;obtain rfl:ad743=ad744:=(by injection e744)
           replace hx744_0:=(HB.out.cell (World.block_lt_of_cell? w _ hx744_0)).trans hx744_0;replace p744:=eq_true p744;replace q744:=eq_true q744;go_wp2
           repeat(go_quiet (fail);try go_wp2)
           go_ret2
           exact⟨_,by first|rfl|(simp [errW_none,errW_some] <;> rfl)|(simp only[← hji9];first|rfl|(simp [errW_none,errW_some] <;> rfl))|(simp [*,errW_none,errW_some] <;> rfl),by first|exact Kd.R_nil _ _ _ _ _|exact Kd.N_nil _ _ _ _ _|exact Kd.V_nil _ _ _ _ _|exact Kd.Q_nil _ _ _ _ _|exact Kd.S_nil _ _ _ _ _,pB⟩
          ·rw[if_neg c12] at H;have c12b0:decide ((rd l1 x7_1)≤(rd l1 (ji9)))=false:=decide_eq_false c12;clear c12;have H':=aM H;clear H;have p743:0≤(x7_1:Int):=oE aS
           have q743:x7_1 < (l1.length:Int):=oE aS
           obtain⟨ad743,e743,hx743_0⟩:=Kd.at_int HR1.out x7_1 p743 q743;cases e743
           replace hx743_0:=(HB.out.cell (World.block_lt_of_cell? w _ hx743_0)).trans hx743_0;replace p743:=eq_true p743;replace q743:=eq_true q743;have p744:0≤((ji9):Int):=oE aS
           have q744:(ji9) < (l1.length:Int):=oE aS
           obtain⟨ad744,e744,hx744_0⟩:=Kd.at_int HR1.out (ji9) p744 q744;obtain rfl:ad743=ad744:=(by injection e744)
           replace hx744_0:=(HB.out.cell (World.block_lt_of_cell? w _ hx744_0)).trans hx744_0;replace p744:=eq_true p744;replace q744:=eq_true q744;go_wp2
           repeat(go_quiet (fail);try go_wp2)
           go_roundg k1
           case measure=>have:=HK1.out;omega
           case rel=>exact⟨(wrap64 (x7_1+1)),sD,H',⟨by have:=HK1.out;omega⟩,⟨pB⟩⟩
         ·rw[if_neg c11] at H;exact absurd H (by simp)
        ·rw[if_neg c10] at H;exact absurd H (by simp)
       ·rw[if_neg c8] at H;exact absurd H (by simp)
      ·rw[if_neg c7] at H;have c7b0:decide (x7_1 < (l1.length:Int))=false:=decide_eq_false c7;clear c7;obtain⟨ji13,hji13⟩:∃ j_:Int,(wrap64 ((l1.length:Int) - 1))=j_:=⟨_,rfl⟩;replace H:(if 0≤(ji13) then(if(ji13:Int).toNat≤35184372088832 then(Azq.l1 k1 l0 l1 (List.replicate (ji13:Int).toNat 0) 0) else(none)) else(none))=some (r1,r2):=by first|(rw[hji13] at H;exact H)|(simp only[hji13] at H ⊢;exact H)
       have hji13w:(IntKind.i64.wrap ((l1.length:Int) - 1))=ji13:=(i64_w _).trans hji13;by_cases c14:0≤(ji13)
       ·rw[if_pos c14] at H;have c14b0:=eq_true c14;have c14b1:decide (0≤(ji13))=true:=dE c14;clear c14;by_cases c15:(ji13:Int).toNat≤35184372088832
        ·rw[if_pos c15] at H;have c15b0:=eq_true c15;have c15b1:decide ((ji13:Int).toNat≤35184372088832)=true:=dE c15;clear c15;obtain⟨y745,hy745⟩:∃ y_:List Int,y_=(List.replicate (ji13:Int).toNat 0):=⟨_,rfl⟩;replace H:(Azq.l1 k1 l0 l1 y745 0)=some (r1,r2):=by first|(rw[hy745];with_reducible exact H)|(have H2_:=(Option.bind_some _ _).symm.trans H;rw[hy745];with_reducible exact H2_)|(have H2_:=(Option.bind_some _ _).symm.trans H;with_reducible exact H2_)|with_reducible exact H|(rw[hy745];exact H)|exact H
         have Ny745:=aM hy745;clear hy745;have H':=aM H;clear H;have fl_:True:=trivial;repeat((first|clear fl_|go_quiet (first|((with_reducible refine gate_dst (N:=41) rfl ?_);refine Kd.R_make (Kd.int .i64) _ 3 rfl (N:=41) rfl 22 _ _ rfl ji13 rfl rfl Try.underlying22 (.int .i64 0) 8 info3 rfl (by decide) (by omega) 0 (ok:=fun _=>True) (okp:=fun _=>True) rfl (fun _ hk=>hk) trivial (oE aS) (Nat.le_trans (Nat.mul_le_mul_right _ (oE aS:ji13.toNat≤35184372088832)) (by omega)) (Below.refl _ _) (Nat.le_refl _) ?_;intro v746 w16 ho17 hb hg_ hnew_;clear hg_ hnew_;(first|rw[← Ny745.out] at ho17|(simp only[Int.reduceToNat] at ho17;rw[← Ny745.out] at ho17));have HO747:=aM (Kd.R_lower ho17 (below_size pB));replace HB:=aM (below_step pB hb);clear hb ho17)));go_wp2_with (first|((with_reducible refine gate_dst (N:=41) rfl ?_);refine Kd.R_make (Kd.int .i64) _ 3 rfl (N:=41) rfl 22 _ _ rfl ji13 rfl rfl Try.underlying22 (.int .i64 0) 8 info3 rfl (by decide) (by omega) 0 (ok:=fun _=>True) (okp:=fun _=>True) rfl (fun _ hk=>hk) trivial (oE aS) (Nat.le_trans (Nat.mul_le_mul_right _ (oE aS:ji13.toNat≤35184372088832)) (by omega)) (Below.refl _ _) (Nat.le_refl _) ?_;intro v746 w16 ho17 hb hg_ hnew_;clear hg_ hnew_;(first|rw[← Ny745.out] at ho17|(simp only[Int.reduceToNat] at ho17;rw[← Ny745.out] at ho17));have HO747:=aM (Kd.R_lower ho17 (below_size pB));replace HB:=aM (below_step pB hb);clear hb ho17)))
         go_loopg [9] k1 (fun kq v9 w'=>∃ (x8_2:List Int) (x9_2:Int),v9=.int .i64 x9_2∧Aside0 (Azq.l1 kq l0 l1 x8_2 x9_2=some (r1,r2))∧Aside0 (kq≤k1)∧Aside0 (Kd.R (Kd.int .i64) 3 w' w.heap.size (fun _=>True) v746 x8_2)∧Aside0 (Below w.heap.size w w'))
         case atStart=>exact⟨(y745),(0),sD,H',⟨Nat.le_refl _⟩,⟨rX HO747.out⟩,⟨pB⟩⟩
         case round =>
          clear H';try clear c1
          try clear p2
          try clear c4
          try clear c4b0
          try clear c4b1
          try clear c5
          try clear c5b0
          try clear c5b1
          try clear c6
          try clear c6b0
          try clear c6b1
          try clear p6
          try clear c7
          try clear c7b0
          try clear p7
          try clear q7
          try clear hx7
          try clear c8
          try clear c8b0
          try clear c10
          try clear c10b0
          try clear c11
          try clear c11b0
          try clear c12
          try clear c12b0
          try clear c14
          try clear c14b0
          try clear c14b1
          try clear c15
          try clear c15b0
          try clear c15b1
          try clear c16
          try clear hx743_0
          try clear hx744_0
          try clear p2
          try clear p743
          try clear p744
          try clear q743
          try clear q744
          obtain⟨x8_2,x9_2,rfl,HA,HK2,HO_8,HB⟩:=hrel;cases gk with
          | zero=>exact absurd HA.out (by simp [Azq.l1])
          | succ k2 =>
           have H:=HA.out;clear HA;simp only[Azq.l1] at H;by_cases c18:x9_2 < (l0.length:Int)
           ·rw[if_pos c18] at H;have c18b0:decide (x9_2 < (l0.length:Int))=true:=dE c18;clear c18;have H':=aM H;clear H;go_wp2
            repeat(go_quiet (fail);try go_wp2)
            go_loopg [10] k2 (fun kq v10 w'=>∃ (x8_3:List Int) (x10_3:Int),v10=.int .i64 x10_3∧Aside0 (Azq.l2 kq l0 l1 x8_3 x9_2 x10_3=some (r1,r2))∧Aside0 (kq≤k2)∧Aside0 (Kd.R (Kd.int .i64) 3 w' w.heap.size (fun _=>True) v746 x8_3)∧Aside0 (Below w.heap.size w w'))
            case atStart=>exact⟨(x8_2),(0),sD,H',⟨Nat.le_refl _⟩,⟨rX HO_8.out⟩,⟨pB⟩⟩
            case round =>
             clear H';try clear c1
             try clear p2
             try clear c4
             try clear c4b0
             try clear c4b1
             try clear c5
             try clear c5b0
             try clear c5b1
             try clear c6
             try clear c6b0
             try clear c6b1
             try clear p6
             try clear c7
             try clear c7b0
             try clear p7
             try clear q7
             try clear hx7
             try clear c8
             try clear c8b0
             try clear c10
             try clear c10b0
             try clear c11
             try clear c11b0
             try clear c12
             try clear c12b0
             try clear c14
             try clear c14b0
             try clear c14b1
             try clear c15
             try clear c15b0
             try clear c15b1
             try clear c16
             try clear c18
             try clear c18b0
             try clear hx743_0
             try clear hx744_0
             try clear p2
             try clear p6
             try clear p7
             try clear p743
             try clear p744
             try clear q7
             try clear q743
             try clear q744
             obtain⟨x8_3,x10_3,rfl,HA,HK3,HO_8,HB⟩:=hrel;cases gk with
             | zero=>exact absurd HA.out (by simp [Azq.l2])
             | succ k3 =>
              have H:=HA.out;clear HA;simp only[Azq.l2] at H;by_cases c19:x10_3 < (x8_3.length:Int)
              ·rw[if_pos c19] at H;have c19b0:decide (x10_3 < (x8_3.length:Int))=true:=dE c19;clear c19;by_cases c20:0≤x10_3
               ·rw[if_pos c20] at H;have c20b0:decide (0≤x10_3)=true:=dE c20;clear c20;by_cases c21:x10_3 < (l1.length:Int)
                ·rw[if_pos c21] at H;have c21b0:decide (x10_3 < (l1.length:Int))=true:=dE c21;clear c21;by_cases c22:0≤x9_2
                 ·rw[if_pos c22] at H;have c22b0:decide (0≤x9_2)=true:=dE c22;clear c22;by_cases c23:x9_2 < (l0.length:Int)
                  ·rw[if_pos c23] at H;have c23b0:decide (x9_2 < (l0.length:Int))=true:=dE c23;clear c23;by_cases c24:(rd l1 x10_3)≤(rd l0 x9_2)
                   ·rw[if_pos c24] at H;have c24b0:decide ((rd l1 x10_3)≤(rd l0 x9_2))=true:=dE c24;clear c24;obtain⟨ji25,hji25⟩:∃ j_:Int,(wrap64 (x10_3+1))=j_:=⟨_,rfl⟩;replace H:(if 0≤(ji25) then(if(ji25) < (l1.length:Int) then(if(rd l0 x9_2) < (rd l1 (ji25)) then(Azq.l2 k3 l0 l1 (x8_3.set (x10_3:Int).toNat (wrap64 ((rd x8_3 x10_3)+1))) x9_2 ji25) else(Azq.l2 k3 l0 l1 x8_3 x9_2 ji25)) else(none)) else(none))=some (r1,r2):=by first|(rw[hji25] at H;exact H)|(simp only[hji25] at H ⊢;exact H)
                    have hji25w:(IntKind.i64.wrap (x10_3+1))=ji25:=(i64_w _).trans hji25;by_cases c26:0≤(ji25)
                    ·rw[if_pos c26] at H;have c26b0:decide (0≤(ji25))=true:=dE c26;clear c26;by_cases c27:(ji25) < (l1.length:Int)
                     ·rw[if_pos c27] at H;have c27b0:decide ((ji25) < (l1.length:Int))=true:=dE c27;clear c27;by_cases c28:(rd l0 x9_2) < (rd l1 (ji25))
                      ·rw[if_pos c28] at H;have c28b0:decide ((rd l0 x9_2) < (rd l1 (ji25)))=true:=dE c28;clear c28;obtain⟨y753,hy753⟩:∃ y_:List Int,y_=(x8_3.set (x10_3:Int).toNat (wrap64 ((rd x8_3 x10_3)+1))):=⟨_,rfl⟩;replace H:(Azq.l2 k3 l0 l1 y753 x9_2 ji25)=some (r1,r2):=by first|(rw[hy753];with_reducible exact H)|(have H2_:=(Option.bind_some _ _).symm.trans H;rw[hy753];with_reducible exact H2_)|(have H2_:=(Option.bind_some _ _).symm.trans H;with_reducible exact H2_)|with_reducible exact H|(rw[hy753];exact H)|exact H
                       have Ny753:=aM hy753;clear hy753;have H':=aM H;clear H;obtain⟨Ao30,co30,eo30⟩:=Kd.R_slice HO_8.out;subst eo30;have p748:0≤(x10_3:Int):=oE aS
                       have q748:x10_3 < (l1.length:Int):=oE aS
                       obtain⟨ad748,e748,hx748_0⟩:=Kd.at_int HR1.out x10_3 p748 q748;cases e748
                       replace hx748_0:=(HB.out.cell (World.block_lt_of_cell? w _ hx748_0)).trans hx748_0;replace p748:=eq_true p748;replace q748:=eq_true q748;have p749:0≤(x9_2:Int):=oE aS
                       have q749:x9_2 < (l0.length:Int):=oE aS
                       obtain⟨ad749,e749,hx749_0⟩:=Kd.at_int HR0.out x9_2 p749 q749;cases e749
                       replace hx749_0:=(HB.out.cell (World.block_lt_of_cell? w _ hx749_0)).trans hx749_0;replace p749:=eq_true p749;replace q749:=eq_true q749;have p750:0≤(x9_2:Int):=oE aS
                       have q750:x9_2 < (l0.length:Int):=oE aS
                       obtain⟨ad750,e750,hx750_0⟩:=Kd.at_int HR0.out x9_2 p750 q750;obtain rfl:ad749=ad750:=(by injection e750)
                       replace hx750_0:=(HB.out.cell (World.block_lt_of_cell? w _ hx750_0)).trans hx750_0;replace p750:=eq_true p750;replace q750:=eq_true q750;have p751:0≤((ji25):Int):=oE aS
                       have q751:(ji25) < (l1.length:Int):=oE aS
                       obtain⟨ad751,e751,hx751_0⟩:=Kd.at_int HR1.out (ji25) p751 q751;obtain rfl:ad748=ad751:=(by injection e751)
                       replace hx751_0:=(HB.out.cell (World.block_lt_of_cell? w _ hx751_0)).trans hx751_0;replace p751:=eq_true p751;replace q751:=eq_true q751;have p752:0≤(x10_3:Int):=oE aS
                       have q752:x10_3 < (x8_3.length:Int):=oE aS
                       obtain⟨ad752,e752,hx752_0⟩:=Kd.at_int (Kd.R_reads' HO_8.out).2.2 x10_3 p752 q752;cases e752
                       replace p752:=eq_true p752;replace q752:=eq_true q752;have p29:0≤(x10_3:Int):=oE aS
                       have q29:(x10_3:Int) < ((x8_3.length:Int):Int):=oE aS
                       obtain⟨go29,co29,eo29,gb29,gl29,cl29,HG29⟩:=Kd.R_form HO_8.out (by omega)
                       (first|cases eo29|(injection eo29 with ea_ en_ ec_;(first|subst ea_|(injection ea_ with ea_;subst ea_));subst ec_;clear en_))
                       have GB29:=aM gb29;have GG29:=aM HG29;clear gb29 gl29 HG29;(first|simp only[add_plain] at hx752_0|skip)
                       obtain⟨hx29_0,hf29_0⟩:=Kd.R_celln 0 HO_8.out (x10_3:Int) p29 q29;replace p29:=eq_true p29;replace q29:=eq_true q29;have HP31:=Kd.R_putg HO_8.out (x10_3:Int) (wrap64 ((rd x8_3 x10_3)+1));have fl_:True:=trivial;repeat((first|clear fl_|go_quiet (first|((with_reducible refine gate_store (t:=3) (p:=80) rfl ?_);(try(rw[drewN_self wr];generalize hq_:World.drewN wr _=wr;have n0_:=aM (Kd.R_at hq_ HO_8.out);have n1_:=aM (below_at hq_ HB.out);clear hq_ HO_8 HB;have HO_8:=n0_;have HB:=n1_;clear n0_ n1_;(try(obtain⟨hx29_0,hf29_0⟩:=Kd.R_celln 0 HO_8.out (x10_3:Int) (of_eq_true p29) (of_eq_true q29)));(try(have HP31:=Kd.R_putg HO_8.out (x10_3:Int) (wrap64 ((rd x8_3 x10_3)+1))))));refine store_event (t:=3) (p:=80) (v:=?vo_w32) (w1:=(wr.setCell ⟨go29,(x10_3:Int).toNat,none⟩ (.int .i64 (wrap64 ((rd x8_3 x10_3)+1))))) ?hg ?ho ?hn ?hr ?_;(case ho=>rfl);(case hg=>rfl);(case hn=>rfl);(case hr=>first|(go_simp;done)|(go_simp;rfl));intro w32 hw;have hg:wr.grownBy w32 (some go29):=(by rw[hw];exact HP31.2);have hp_:Kd.R (Kd.int .i64) 3 w32 w.heap.size (fun _=>True) (.slice (some ⟨go29,0,none⟩) x8_3.length co30) y753:=(by rw[hw,Ny753.out];exact HP31.1);clear HP31;replace HO_8:=aM (hp_);replace HB:=aM ((by rw[hw];exact below_set (HB.out) GB29.out:Below w.heap.size w w32));clear hg hw hp_)));go_wp2_with (first|((with_reducible refine gate_store (t:=3) (p:=80) rfl ?_);(try(rw[drewN_self wr];generalize hq_:World.drewN wr _=wr;have n0_:=aM (Kd.R_at hq_ HO_8.out);have n1_:=aM (below_at hq_ HB.out);clear hq_ HO_8 HB;have HO_8:=n0_;have HB:=n1_;clear n0_ n1_;(try(obtain⟨hx29_0,hf29_0⟩:=Kd.R_celln 0 HO_8.out (x10_3:Int) (of_eq_true p29) (of_eq_true q29)));(try(have HP31:=Kd.R_putg HO_8.out (x10_3:Int) (wrap64 ((rd x8_3 x10_3)+1))))));refine store_event (t:=3) (p:=80) (v:=?vo_w32) (w1:=(wr.setCell ⟨go29,(x10_3:Int).toNat,none⟩ (.int .i64 (wrap64 ((rd x8_3 x10_3)+1))))) ?hg ?ho ?hn ?hr ?_;(case ho=>rfl);(case hg=>rfl);(case hn=>rfl);(case hr=>first|(go_simp;done)|(go_simp;rfl));intro w32 hw;have hg:wr.grownBy w32 (some go29):=(by rw[hw];exact HP31.2);have hp_:Kd.R (Kd.int .i64) 3 w32 w.heap.size (fun _=>True) (.slice (some ⟨go29,0,none⟩) x8_3.length co30) y753:=(by rw[hw,Ny753.out];exact HP31.1);clear HP31;replace HO_8:=aM (hp_);replace HB:=aM ((by rw[hw];exact below_set (HB.out) GB29.out:Below w.heap.size w w32));clear hg hw hp_)))
                       go_roundg k3
                       case measure=>have:=HK1.out;have:=HK2.out;have:=HK3.out;omega
                       case rel=>exact⟨(y753),(ji25),(by first|rfl|(simp;done)|(simp only[← hji25] <;> (first|rfl|simp))|(simp [*];done)),H',⟨by have:=HK1.out;have:=HK2.out;have:=HK3.out;omega⟩,⟨rX HO_8.out⟩,⟨pB⟩⟩
                      ·rw[if_neg c28] at H;have c28b0:decide ((rd l0 x9_2) < (rd l1 (ji25)))=false:=decide_eq_false c28;clear c28;have H':=aM H;clear H;obtain⟨Ao33,co33,eo33⟩:=Kd.R_slice HO_8.out;subst eo33;have p748:0≤(x10_3:Int):=oE aS
                       have q748:x10_3 < (l1.length:Int):=oE aS
                       obtain⟨ad748,e748,hx748_0⟩:=Kd.at_int HR1.out x10_3 p748 q748;cases e748
                       replace hx748_0:=(HB.out.cell (World.block_lt_of_cell? w _ hx748_0)).trans hx748_0;replace p748:=eq_true p748;replace q748:=eq_true q748;have p749:0≤(x9_2:Int):=oE aS
                       have q749:x9_2 < (l0.length:Int):=oE aS
                       obtain⟨ad749,e749,hx749_0⟩:=Kd.at_int HR0.out x9_2 p749 q749;cases e749
                       replace hx749_0:=(HB.out.cell (World.block_lt_of_cell? w _ hx749_0)).trans hx749_0;replace p749:=eq_true p749;replace q749:=eq_true q749;have p750:0≤(x9_2:Int):=oE aS
                       have q750:x9_2 < (l0.length:Int):=oE aS
                       obtain⟨ad750,e750,hx750_0⟩:=Kd.at_int HR0.out x9_2 p750 q750;obtain rfl:ad749=ad750:=(by injection e750)
                       replace hx750_0:=(HB.out.cell (World.block_lt_of_cell? w _ hx750_0)).trans hx750_0;replace p750:=eq_true p750;replace q750:=eq_true q750;have p751:0≤((ji25):Int):=oE aS
                       have q751:(ji25) < (l1.length:Int):=oE aS
                       obtain⟨ad751,e751,hx751_0⟩:=Kd.at_int HR1.out (ji25) p751 q751;obtain rfl:ad748=ad751:=(by injection e751)
                       replace hx751_0:=(HB.out.cell (World.block_lt_of_cell? w _ hx751_0)).trans hx751_0;replace p751:=eq_true p751;replace q751:=eq_true q751;go_wp2
                       repeat(go_quiet (fail);try go_wp2)
                       go_roundg k3
                       case measure=>have:=HK1.out;have:=HK2.out;have:=HK3.out;omega
                       case rel=>exact⟨(x8_3),(ji25),(by first|rfl|(simp;done)|(simp only[← hji25] <;> (first|rfl|simp))|(simp [*];done)),H',⟨by have:=HK1.out;have:=HK2.out;have:=HK3.out;omega⟩,⟨rX HO_8.out⟩,⟨pB⟩⟩
                     ·rw[if_neg c27] at H;exact absurd H (by simp)
                    ·rw[if_neg c26] at H;exact absurd H (by simp)
                   ·rw[if_neg c24] at H;have c24b0:decide ((rd l1 x10_3)≤(rd l0 x9_2))=false:=decide_eq_false c24;clear c24;have H':=aM H;clear H;obtain⟨Ao34,co34,eo34⟩:=Kd.R_slice HO_8.out;subst eo34;have p748:0≤(x10_3:Int):=oE aS
                    have q748:x10_3 < (l1.length:Int):=oE aS
                    obtain⟨ad748,e748,hx748_0⟩:=Kd.at_int HR1.out x10_3 p748 q748;cases e748
                    replace hx748_0:=(HB.out.cell (World.block_lt_of_cell? w _ hx748_0)).trans hx748_0;replace p748:=eq_true p748;replace q748:=eq_true q748;have p749:0≤(x9_2:Int):=oE aS
                    have q749:x9_2 < (l0.length:Int):=oE aS
                    obtain⟨ad749,e749,hx749_0⟩:=Kd.at_int HR0.out x9_2 p749 q749;cases e749
                    replace hx749_0:=(HB.out.cell (World.block_lt_of_cell? w _ hx749_0)).trans hx749_0;replace p749:=eq_true p749;replace q749:=eq_true q749;go_wp2
                    repeat(go_quiet (fail);try go_wp2)
                    go_roundg k3
                    case measure=>have:=HK1.out;have:=HK2.out;have:=HK3.out;omega
                    case rel=>exact⟨(x8_3),(wrap64 (x10_3+1)),sD,H',⟨by have:=HK1.out;have:=HK2.out;have:=HK3.out;omega⟩,⟨rX HO_8.out⟩,⟨pB⟩⟩
                  ·rw[if_neg c23] at H;exact absurd H (by simp)
                 ·rw[if_neg c22] at H;exact absurd H (by simp)
                ·rw[if_neg c21] at H;exact absurd H (by simp)
               ·rw[if_neg c20] at H;exact absurd H (by simp)
              ·rw[if_neg c19] at H;have c19b0:decide (x10_3 < (x8_3.length:Int))=false:=decide_eq_false c19;clear c19;have H':=aM H;clear H;obtain⟨Ao35,co35,eo35⟩:=Kd.R_slice HO_8.out;subst eo35;go_wp2
               repeat(go_quiet (fail);try go_wp2)
               go_roundg k3
               case measure=>have:=HK1.out;have:=HK2.out;have:=HK3.out;omega
               case rel=>exact⟨(x8_3),(wrap64 (x9_2+1)),sD,H',⟨by have:=HK1.out;have:=HK2.out;have:=HK3.out;omega⟩,⟨rX HO_8.out⟩,⟨pB⟩⟩
           ·rw[if_neg c18] at H;have c18b0:decide (x9_2 < (l0.length:Int))=false:=decide_eq_false c18;clear c18;simp only[Option.some.injEq,Prod.mk.injEq] at H;obtain⟨rfl,rfl⟩:=H;go_wp2
            repeat(go_quiet (fail);try go_wp2)
            go_ret2
            exact⟨_,by first|rfl|(simp [errW_none,errW_some] <;> rfl)|(simp only[← hji13];first|rfl|(simp [errW_none,errW_some] <;> rfl))|(simp [*,errW_none,errW_some] <;> rfl),rX HO_8.out,pB⟩
        ·rw[if_neg c15] at H;exact absurd H (by simp)
       ·rw[if_neg c14] at H;exact absurd H (by simp)
 ·rw[if_neg c4] at H;have c4b0:(t742 == 0)=false:=beq_eq_false_iff_ne.mpr c4;have c4b1:(t742 != 0)=true:=bne_iff_ne.mpr c4;simp only[Option.some.injEq,Prod.mk.injEq] at H;obtain⟨rfl,rfl⟩:=H;go_enter Try.func16,Try.ntmps16
  have fl_:True:=trivial;repeat((first|clear fl_|go_quiet (first|(go_at_call 33;(with_reducible refine(Azj.calls k _ _ l0 t742 _ ?side1 ?side2 A3.out).mono ?_);(case side1=>exact cX HR0.out);(case side2=>exact HC0.out);rintro e w' ⟨rfl,⟨nd,rfl⟩⟩;(try first|exact⟨rfl,_,World.drewN_drewN _ _ _⟩|exact⟨rfl,_,Eq.trans (World.drewN_drewN _ _ _) (congrArg (World.drewN _) (Nat.add_assoc _ _ _))⟩))));go_wp2_with (first|(go_at_call 33;(with_reducible refine(Azj.calls k _ _ l0 t742 _ ?side1 ?side2 A3.out).mono ?_);(case side1=>exact cX HR0.out);(case side2=>exact HC0.out);rintro e w' ⟨rfl,⟨nd,rfl⟩⟩;(try first|exact⟨rfl,_,World.drewN_drewN _ _ _⟩|exact⟨rfl,_,Eq.trans (World.drewN_drewN _ _ _) (congrArg (World.drewN _) (Nat.add_assoc _ _ _))⟩))))
  go_ret2
  exact⟨_,eW,by first|exact Kd.R_nil _ _ _ _ _|exact Kd.N_nil _ _ _ _ _|exact Kd.V_nil _ _ _ _ _|exact Kd.Q_nil _ _ _ _ _|exact Kd.S_nil _ _ _ _ _,pB⟩

end Go.Proofs.Ytokkiljkgejnhaa.Print
